/-
  slices.Insert of one sample.
-/
import Derived.Test.YtfbmkepogcimlaaTsA
import Derived.Test.YtfbmkepogcimlaaTsB
import Derived.Test.YtfbmkepogcimlaaTsC
import Derived.Test.YtfbmkepogcimlaaTsD
import Derived.Test.YtfbmkepogcimlaaTsE



namespace Go.Proofs.Ytfbmkepogcimlaa
open Go Go.RowKit Hx
set_option linter.unusedVariables false
set_option linter.unusedSimpArgs false
set_option maxRecDepth 8000
def smp0 : SmpR := ⟨0, 0, 0, 0, 0, 0, 0⟩
def zsG (xs : List SmpR) (i : Nat) (m : SmpR) (k : Nat) : List SmpR := (xs.take i ++ List.replicate k smp0).take i ++ [m] ++ (xs.take i ++ List.replicate k smp0).drop (i + 1)
theorem zsG_1 {xs : List SmpR} {i : Nat} {m : SmpR} {k : Nat} (h : 0 < k ∧ i ≤ xs.length) : (encSmp.enc (xs.take i ++ List.replicate k smp0)).take (i * 7) ++ encSmp.enc [m] ++ (encSmp.enc (xs.take i ++ List.replicate k smp0)).drop (i * 7 + 1 * 7) = encSmp.enc (zsG xs i m k) :=
  copy_typed encSmp (ys := [m]) (by rw [List.length_append, List.length_take, List.length_replicate, List.length_singleton]; omega)
theorem zsG_take {xs : List SmpR} {i : Nat} {m : SmpR} {k : Nat} (h : i ≤ xs.length) : (zsG xs i m k).take (i + 1) = xs.take i ++ [m] := by
  have hl : (xs.take i).length = i := by rw [List.length_take]; omega
  unfold zsG
  rw [List.take_append_of_le_length (by rw [List.length_append, List.length_take, List.length_append, List.length_replicate, hl, List.length_singleton]; omega), List.take_of_length_le (by rw [List.length_append, List.length_take, List.length_singleton]; omega), List.take_append_of_le_length (by omega), List.take_of_length_le (by omega)]
theorem zsG_len {xs : List SmpR} {i : Nat} {m : SmpR} {k : Nat} (h : i ≤ xs.length ∧ 0 < k) : (zsG xs i m k).length = i + k := by
  unfold zsG
  rw [List.length_append, List.length_append, List.length_take, List.length_drop, List.length_append, List.length_take, List.length_replicate, List.length_singleton]; omega
theorem zsG_2 {xs : List SmpR} {i n : Nat} {m : SmpR} {k : Nat} (h : i < xs.length ∧ 0 < k ∧ xs.length = n ∧ i + k = n + 1) : (encSmp.enc (zsG xs i m k)).take ((i + 1) * 7) ++ encSmp.enc (xs.drop i) ++ (encSmp.enc (zsG xs i m k)).drop ((i + 1) * 7 + (n - i) * 7) = encSmp.enc (xs.take i ++ m :: xs.drop i) := by
  have hl := zsG_len (xs := xs) (i := i) (m := m) (k := k) (by omega)
  have h1 := copy_typed encSmp (xs := zsG xs i m k) (ys := xs.drop i) (i := i + 1) (by rw [hl, List.length_drop]; omega)
  have hd : (zsG xs i m k).drop (i + 1 + (xs.length - i)) = [] := List.drop_eq_nil_of_le (by omega)
  have e : xs.take i ++ [m] ++ xs.drop i = xs.take i ++ m :: xs.drop i := by rw [List.append_assoc]; rfl
  rw [List.length_drop, zsG_take (by omega), hd, List.append_nil, e] at h1
  obtain rfl := h.2.2.1
  exact h1
theorem ins_grow (a : Option Addr) (n c : Nat) (xs : List SmpR) (i : Nat) (m : SmpR) (va : Option Addr) (vc : Nat) (w : World) (hx : Rd encSmp w.heap.size w a n c xs) (hv : Rd encSmp w.heap.size w va 1 vc [m]) (hi : 0 < i ∧ i < n) (hc : c < n + 1) (hn : n ≤ 20000) :
    Calls Try.prog 39 #[.slice a n c, .int .i64 (i : Int), .slice va 1 vc] w fun e w' => ∃ b k, e = .returned (.slice b (n + 1) k) ∧ Fresh encSmp 70 w w' b (n + 1) k (xs.take i ++ m :: xs.drop i) := by
  have hln := hx.len
  have hroom := hx.room
  obtain ⟨pv, rfl⟩ : ∃ p, va = some p := by have := hv.isSome (by omega); cases va with | none => simp at this | some p => exact ⟨p, rfl⟩
  obtain ⟨p, hp1, hp2⟩ := tail_rd hx hi.2
  refine enterQ (N := 95) (C := fun _ => True) (H := []) (B := w.heap.size) (args := [_, _, _]) Try.func39 rfl rfl rfl (Nat.le_refl _) (Sat.nil _ _) fun Q hQ => ?_
  refine wp_seq' fun K1 hK1 => ?_
  refine wp_reg ?_
  refine ol_r (r_assign rfl) rfl ?_
  refine ol_nil (to_k0 (fun _ _ h => h) (hK1 _ _ _ _ _ ?_))
  clear hK1
  refine wp_seq' fun K2 hK2 => ?_
  refine wp_reg ?_
  refine ol_r (r_move rfl) rfl ?_
  refine ol_r (r_move rfl) rfl ?_
  refine ol_slr hx rfl rfl rfl sl53 (by simp only [Option.getD_some, Option.getD_none]; omega) rfl fun a12 c12 hl12 => ?_
  try simp only [Option.getD_some, Option.getD_none] at hl12 ⊢
  refine ol_nil (to_k0 (fun _ _ h => h) (hK2 _ _ _ _ _ ?_))
  clear hK2
  refine wp_seq' fun K3 hK3 => ?_
  refine wp_reg ?_
  refine ol_r (r_move rfl) rfl ?_
  refine ol_r (r_len rfl sl53) rfl ?_
  refine ol_r (r_assign rfl) rfl ?_
  refine ol_nil (to_k0 (fun _ _ h => h) (hK3 _ _ _ _ _ ?_))
  clear hK3
  refine wp_seq' fun K4 hK4 => ?_
  refine wp_seq' fun K5 hK5 => ?_
  refine wp_reg ?_
  refine ol_r (r_move rfl) rfl ?_
  refine ol_r (r_eql rfl rfl) rfl ?_
  refine ol_nil (to_k0 (fun _ _ h => h) (hK5 _ _ _ _ _ ?_))
  clear hK5
  first | refine wp_condD rfl (fun hc16 => ?_) (fun hc16 => ?_) | refine wp_condN rfl (fun hc16 => ?_) (fun hc16 => ?_) | refine wp_condNB rfl (fun hc16 => ?_) (fun hc16 => ?_) | refine wp_cond' rfl (fun hc16 => ?_) (fun hc16 => ?_)
  ·exfalso
   omega
  ·refine wp_skip' (to_k0 (fun _ _ h => h) (hK4 _ _ _ _ _ ?_))
   clear hK4
   refine wp_seq' fun K6 hK6 => ?_
   refine wp_reg ?_
   refine ol_r (r_move rfl) rfl ?_
   refine ol_r (r_len rfl sl53) rfl ?_
   refine ol_r (r_assign rfl) rfl ?_
   refine ol_nil (to_k0 (fun _ _ h => h) (hK6 _ _ _ _ _ ?_))
   clear hK6
   refine wp_seq' fun K7 hK7 => ?_
   refine wp_seq' fun K8 hK8 => ?_
   refine wp_reg ?_
   refine ol_r (r_move rfl) rfl ?_
   refine ol_r (r_move rfl) rfl ?_
   refine ol_r (r_eql rfl rfl) rfl ?_
   refine ol_nil (to_k0 (fun _ _ h => h) (hK8 _ _ _ _ _ ?_))
   clear hK8
   first | refine wp_condD rfl (fun hc22 => ?_) (fun hc22 => ?_) | refine wp_condN rfl (fun hc22 => ?_) (fun hc22 => ?_) | refine wp_condNB rfl (fun hc22 => ?_) (fun hc22 => ?_) | refine wp_cond' rfl (fun hc22 => ?_) (fun hc22 => ?_)
   ·exfalso
    omega
   ·refine wp_skip' (to_k0 (fun _ _ h => h) (hK7 _ _ _ _ _ ?_))
    clear hK7
    refine wp_seq' fun K9 hK9 => ?_
    refine wp_seq' fun K10 hK10 => ?_
    refine wp_reg ?_
    refine ol_r (r_move rfl) rfl ?_
    refine ol_r (r_move rfl) rfl ?_
    refine ol_r (r_add rfl rfl (by omega)) rfl ?_
    refine ol_r (r_move rfl) rfl ?_
    refine ol_r (r_capn rfl sl53) rfl ?_
    refine ol_r (r_gtr rfl rfl) rfl ?_
    refine ol_nil (to_k0 (fun _ _ h => h) (hK10 _ _ _ _ _ ?_))
    clear hK10
    first | refine wp_condD rfl (fun hc31 => ?_) (fun hc31 => ?_) | refine wp_condN rfl (fun hc31 => ?_) (fun hc31 => ?_) | refine wp_condNB rfl (fun hc31 => ?_) (fun hc31 => ?_) | refine wp_cond' rfl (fun hc31 => ?_) (fun hc31 => ?_)
    ·refine wp_seq' fun K11 hK11 => ?_
     refine wp_reg ?_
     refine ol_r (r_move rfl) rfl ?_
     refine ol_r (r_move rfl) rfl ?_
     refine ol_cutR rfl rfl sl53 (by omega) (by omega) rfl ?_
     rw [Int.toNat_natCast]
     refine ol_r (r_move rfl) rfl ?_
     refine ol_r (r_move rfl) rfl ?_
     refine ol_r (r_add rfl rfl (by omega)) rfl ?_
     refine ol_r (r_move rfl) rfl ?_
     refine ol_r (r_sub rfl rfl (by omega)) rfl ?_
     refine ol_appendZR encSmp smp0 40 (N' := n + 1) rfl rfl hx (by omega) rw53 Try.underlying3 z70 rfl rfl (by omega) (by omega) (by omega) rfl fun a40 c40 hq40 => ?_
     refine ol_r (r_assign rfl) rfl ?_
     refine ol_nil (to_k0 (fun _ _ h => h) (hK11 _ _ _ _ _ ?_))
     clear hK11
     refine wp_seq' fun K12 hK12 => ?_
     refine wp_reg ?_
     refine ol_r (r_move rfl) rfl ?_
     refine ol_r (r_move rfl) rfl ?_
     refine ol_r (r_sl rfl rfl rfl sl53 (by simp only [Option.getD_some, Option.getD_none]; omega) (by omega)) rfl ?_
     refine ol_r (r_move rfl) rfl ?_
     refine ol_copyO (id := 40) (i := i) (n := n + 1) (m := 1) rfl rfl rfl rw53 (by rw [Enc.enc_len]; rfl) (encSmp.ones_enc [m]) (fun w1 hb1 hs1 hB1 => ⟨pv, rfl, (hv.below hb1).flat rfl⟩) (by omega) (by omega) (Nat.min_eq_left (by omega)) rfl ?_
     refine row_eq (zs := zsG xs i m ((n : Int) + ((1 : Nat) : Int) - (i : Int)).toNat) (zsG_1 (by omega)) ?_
     refine ol_nil (to_k0 (fun _ _ h => h) (hK12 _ _ _ _ _ ?_))
     clear hK12
     refine wp_seq' fun K13 hK13 => ?_
     refine wp_regt 8 (by kernel_rfl) (by kernel_rfl) ?_
     simp only [List.take_succ_cons, List.take_zero, List.drop_succ_cons, List.drop_zero]
     refine sl_r (r_move rfl) rfl ?_
     refine sl_r (r_move rfl) rfl ?_
     refine sl_r (r_move rfl) rfl ?_
     refine sl_r (r_add rfl rfl (by omega)) rfl ?_
     refine sl_r (r_sl rfl rfl rfl sl53 (by simp only [Option.getD_some, Option.getD_none]; omega) (by omega)) rfl ?_
     refine sl_r (r_move rfl) rfl ?_
     refine sl_r (r_move rfl) rfl ?_
     refine sl_r (r_slT hp1 rfl rfl sl53 (by omega)) rfl ?_
     refine sl_nil ?_
     refine ol_copyO (id := 40) (i := i + 1) (n := n + 1) (m := n - i) rfl rfl rfl rw53 (by rw [Enc.enc_len, List.length_drop, hln]; rfl) (encSmp.ones_enc (xs.drop i)) (fun w1 hb1 hs1 hB1 => ⟨p, rfl, hp2 w1 hb1⟩) (by omega) (by omega) (Nat.min_eq_left (by omega)) rfl ?_
     refine row_eq (zs := xs.take i ++ m :: xs.drop i) (zsG_2 (by omega)) ?_
     refine ol_nil (to_k0 (fun _ _ h => h) (hK13 _ _ _ _ _ ?_))
     clear hK13
     refine wp_seq' fun K14 hK14 => ?_
     refine wp_reg ?_
     refine ol_r (r_move rfl) rfl ?_
     refine ol_r (r_assign rfl) rfl ?_
     refine ol_nil (to_k0 (fun _ _ h => h) (hK14 _ _ _ _ _ ?_))
     clear hK14
     refine hQ.ret (rvs1 (rv_t rfl)) (fun _ _ h => h) fun w hb hs hB hkd => ?_
     exact ⟨_, _, rfl, hb, hs.ok 40 _ rfl⟩
    ·exfalso
     omega
theorem zsS_2 {xs : List SmpR} {i n : Nat} {m : SmpR} (h : i < xs.length ∧ xs.length = n) : (encSmp.enc (xs.take (i + 1) ++ xs.drop i)).take (i * 7) ++ encSmp.enc [m] ++ (encSmp.enc (xs.take (i + 1) ++ xs.drop i)).drop (i * 7 + 1 * 7) = encSmp.enc (xs.take i ++ m :: xs.drop i) := by
  have hl : (xs.take (i + 1)).length = i + 1 := by rw [List.length_take]; omega
  have hd : (xs.take (i + 1) ++ xs.drop i).drop (i + 1) = xs.drop i := List.drop_left' hl
  have h1 := copy_typed encSmp (xs := xs.take (i + 1) ++ xs.drop i) (ys := [m]) (i := i) (by rw [List.length_append, hl, List.length_drop, List.length_singleton]; omega)
  have e : xs.take i ++ [m] ++ xs.drop i = xs.take i ++ m :: xs.drop i := by rw [List.append_assoc]; rfl
  rw [List.take_append_of_le_length (by omega), List.take_take, Nat.min_eq_left (by omega), List.length_singleton, hd, e] at h1
  exact h1
theorem rowAt {B n c size id : Nat} {w : World} {H : HL} {a : Option Addr} {vs : List Value} {e : TypeId} (h : Sat B w H) (hr : Hx.look H id = some (.row a n c vs e size)) (hn : 0 < n) : ∃ g, a = some ⟨g, 0, none⟩ := by
  obtain ⟨_, h | ⟨g, cap', cur, hv, _⟩⟩ := (h.ok id _ hr : w.ownsRow B e size (.slice a n c) n vs)
  · omega
  · cases hv; exact ⟨g, rfl⟩
theorem self_src {w : World} {H : HL} {B id n c i g : Nat} {xs : List SmpR} {us : List Value} {T : TypeId} (hs : Sat B w H) (hr : Hx.look H id = some (.row (some ⟨g, 0, none⟩) (n + 1) c (encSmp.enc xs ++ us) T 7)) (hi : i < n) (hl : xs.length = n) : ∀ j u, (encSmp.enc (xs.drop i))[j]? = some u → w.cell? ((⟨g, i * 7, none⟩ : Addr).add j) = some u := fun j u hj => by
  obtain ⟨g', h1, h2, h3⟩ := tail_src hs hr (i := i) (by omega)
  cases h2
  refine h3 j u ?_
  have hlen := encSmp.enc_len xs
  have hd : (encSmp.enc xs).drop (i * 7) = encSmp.enc (xs.drop i) := encSmp.enc_drop xs i (by omega)
  have hm : i * 7 ≤ (encSmp.enc xs).length := by rw [hlen, hl]; exact Nat.mul_le_mul_right _ (by omega)
  rw [List.drop_append_of_le_length hm, hd, List.getElem?_append_left (List.getElem?_eq_some_iff.1 hj).1]
  exact hj
theorem ins_shift (B : Nat) (a : Option Addr) (n c : Nat) (xs : List SmpR) (i : Nat) (m : SmpR) (va : Option Addr) (vc : Nat) (H : HL) (w : World) (hB : B ≤ w.heap.size) (hs0 : Sat B w ((1, .row a n c (encSmp.enc xs) 70 7) :: (3, .row va 1 vc (encSmp.enc [m]) 70 7) :: H)) (hi : 0 < i ∧ i < n) (hc : n + 1 ≤ c) (hn : n ≤ 20000) (hcm : c ≤ 9223372036854775807) :
    Calls Try.prog 39 #[.slice a n c, .int .i64 (i : Int), .slice va 1 vc] w fun e w' => e = .returned (.slice a (n + 1) c) ∧ Below B w w' ∧ Sat B w' ((1, .row a (n + 1) c (encSmp.enc (xs.take i ++ m :: xs.drop i)) 70 7) :: (3, .row va 1 vc (encSmp.enc [m]) 70 7) :: H) ∧ B ≤ w'.heap.size ∧ Kd (fun _ => False) w w' := by
  have hrd := Sat.rd hs0 (E := encSmp) (id := 1) rfl rfl
  have hln := hrd.len
  obtain ⟨g, rfl⟩ := rowAt hs0 (id := 1) rfl (by omega)
  obtain ⟨gv, rfl⟩ := rowAt hs0 (id := 3) rfl (by omega)
  have hvd := Sat.rd hs0 (E := encSmp) (id := 3) rfl rfl
  have hvr := hvd.room
  refine enterQ (N := 95) (C := fun _ => False) (H := (1, .row (some ⟨g, 0, none⟩) n c (encSmp.enc xs) 70 7) :: (3, .row (some ⟨gv, 0, none⟩) 1 vc (encSmp.enc [m]) 70 7) :: H) (B := B) (args := [_, _, _]) Try.func39 rfl rfl rfl (hB) (hs0) fun Q hQ => ?_
  refine wp_seq' fun K1 hK1 => ?_
  refine wp_reg ?_
  refine ol_r (r_assign rfl) rfl ?_
  refine ol_nil (to_k0 (fun _ _ h => h) (hK1 _ _ _ _ _ ?_))
  clear hK1
  refine wp_seq' fun K2 hK2 => ?_
  refine wp_reg ?_
  refine ol_r (r_move rfl) rfl ?_
  refine ol_r (r_move rfl) rfl ?_
  refine ol_r (r_slT (i := i) rfl rfl rfl sl53 (by omega)) rfl ?_
  refine ol_nil (to_k0 (fun _ _ h => h) (hK2 _ _ _ _ _ ?_))
  clear hK2
  refine wp_seq' fun K3 hK3 => ?_
  refine wp_reg ?_
  refine ol_r (r_move rfl) rfl ?_
  refine ol_r (r_len rfl sl53) rfl ?_
  refine ol_r (r_assign rfl) rfl ?_
  refine ol_nil (to_k0 (fun _ _ h => h) (hK3 _ _ _ _ _ ?_))
  clear hK3
  refine wp_seq' fun K4 hK4 => ?_
  refine wp_seq' fun K5 hK5 => ?_
  refine wp_reg ?_
  refine ol_r (r_move rfl) rfl ?_
  refine ol_r (r_eql rfl rfl) rfl ?_
  refine ol_nil (to_k0 (fun _ _ h => h) (hK5 _ _ _ _ _ ?_))
  clear hK5
  first | refine wp_condD rfl (fun hc16 => ?_) (fun hc16 => ?_) | refine wp_condN rfl (fun hc16 => ?_) (fun hc16 => ?_) | refine wp_condNB rfl (fun hc16 => ?_) (fun hc16 => ?_) | refine wp_cond' rfl (fun hc16 => ?_) (fun hc16 => ?_)
  ·exfalso
   omega
  ·refine wp_skip' (to_k0 (fun _ _ h => h) (hK4 _ _ _ _ _ ?_))
   clear hK4
   refine wp_seq' fun K6 hK6 => ?_
   refine wp_reg ?_
   refine ol_r (r_move rfl) rfl ?_
   refine ol_r (r_len rfl sl53) rfl ?_
   refine ol_r (r_assign rfl) rfl ?_
   refine ol_nil (to_k0 (fun _ _ h => h) (hK6 _ _ _ _ _ ?_))
   clear hK6
   refine wp_seq' fun K7 hK7 => ?_
   refine wp_seq' fun K8 hK8 => ?_
   refine wp_reg ?_
   refine ol_r (r_move rfl) rfl ?_
   refine ol_r (r_move rfl) rfl ?_
   refine ol_r (r_eql rfl rfl) rfl ?_
   refine ol_nil (to_k0 (fun _ _ h => h) (hK8 _ _ _ _ _ ?_))
   clear hK8
   first | refine wp_condD rfl (fun hc22 => ?_) (fun hc22 => ?_) | refine wp_condN rfl (fun hc22 => ?_) (fun hc22 => ?_) | refine wp_condNB rfl (fun hc22 => ?_) (fun hc22 => ?_) | refine wp_cond' rfl (fun hc22 => ?_) (fun hc22 => ?_)
   ·exfalso
    omega
   ·refine wp_skip' (to_k0 (fun _ _ h => h) (hK7 _ _ _ _ _ ?_))
    clear hK7
    refine wp_seq' fun K9 hK9 => ?_
    refine wp_seq' fun K10 hK10 => ?_
    refine wp_reg ?_
    refine ol_r (r_move rfl) rfl ?_
    refine ol_r (r_move rfl) rfl ?_
    refine ol_r (r_add rfl rfl (by omega)) rfl ?_
    refine ol_r (r_move rfl) rfl ?_
    refine ol_r (r_capn rfl sl53) rfl ?_
    refine ol_r (r_gtr rfl rfl) rfl ?_
    refine ol_nil (to_k0 (fun _ _ h => h) (hK10 _ _ _ _ _ ?_))
    clear hK10
    first | refine wp_condD rfl (fun hc31 => ?_) (fun hc31 => ?_) | refine wp_condN rfl (fun hc31 => ?_) (fun hc31 => ?_) | refine wp_condNB rfl (fun hc31 => ?_) (fun hc31 => ?_) | refine wp_cond' rfl (fun hc31 => ?_) (fun hc31 => ?_)
    ·exfalso
     omega
    ·refine wp_skip' (to_k0 (fun _ _ h => h) (hK9 _ _ _ _ _ ?_))
     clear hK9
     refine wp_seq' fun K11 hK11 => ?_
     refine wp_reg ?_
     refine ol_r (r_move rfl) rfl ?_
     refine ol_r (r_move rfl) rfl ?_
     refine ol_r (r_move rfl) rfl ?_
     refine ol_r (r_add rfl rfl (by omega)) rfl ?_
     refine ol_longO (id := 1) rfl rfl rfl sl53 (by omega) (by omega) rfl fun us hus => ?_
     have hN : ((n : Int) + ((1 : Nat) : Int)).toNat = n + 1 := by omega
     rw [hN] at hus
     rw [hN]
     refine ol_r (r_assign rfl) rfl ?_
     refine ol_nil (to_k0 (fun _ _ h => h) (hK11 _ _ _ _ _ ?_))
     clear hK11
     refine wp_seq' fun K12 hK12 => ?_
     refine wp_seq' fun K13 hK13 => ?_
     refine wp_reg ?_
     refine ol_r (r_move rfl) rfl ?_
     refine ol_r (r_move rfl) rfl ?_
     refine ol_r (r_move rfl) rfl ?_
     refine ol_r (r_move rfl) rfl ?_
     refine ol_r (r_add rfl rfl (by omega)) rfl ?_
     refine ol_r (r_slT (i := i + 1) rfl rfl rfl sl53 (by omega)) rfl ?_
     refine ol_r (r_ov (tR := 4) (id := 1) (id2 := 3) (i := i + 1) rfl rfl rfl rfl rfl (by decide) (by omega) (by decide) rw53 Try.func71 (by kernel_rfl) (by kernel_rfl) (by kernel_rfl) (by kernel_rfl)) rfl ?_
     refine ol_r (r_not rfl) rfl ?_
     refine ol_nil (to_k0 (fun _ _ h => h) (hK13 _ _ _ _ _ ?_))
     clear hK13
     first | refine wp_condD rfl (fun hc68 => ?_) (fun hc68 => ?_) | refine wp_condN rfl (fun hc68 => ?_) (fun hc68 => ?_) | refine wp_condNB rfl (fun hc68 => ?_) (fun hc68 => ?_) | refine wp_cond' rfl (fun hc68 => ?_) (fun hc68 => ?_)
     ·refine wp_seq' fun K14 hK14 => ?_
      refine wp_regt 8 (by kernel_rfl) (by kernel_rfl) ?_
      simp only [List.take_succ_cons, List.take_zero, List.drop_succ_cons, List.drop_zero]
      refine sl_r (r_move rfl) rfl ?_
      refine sl_r (r_move rfl) rfl ?_
      refine sl_r (r_move rfl) rfl ?_
      refine sl_r (r_add rfl rfl (by omega)) rfl ?_
      refine sl_r (r_slT (i := i + 1) rfl rfl rfl sl53 (by omega)) rfl ?_
      refine sl_r (r_move rfl) rfl ?_
      refine sl_r (r_move rfl) rfl ?_
      refine sl_r (r_slT (i := i) (sliced_in (by omega) (by omega)) rfl rfl sl53 (by omega)) rfl ?_
      refine sl_nil ?_
      refine ol_copyO (id := 1) (i := i + 1) (n := n + 1) (m := n - i) (news := encSmp.enc (xs.drop i)) rfl rfl rfl rw53 (by rw [Enc.enc_len, List.length_drop, hln]; rfl) (encSmp.ones_enc _) (fun w1 hb1 hs1 hB1 => ⟨_, rfl, self_src hs1 (id := 1) rfl (by omega) hln⟩) (by omega) (by omega) ((Nat.min_eq_right (by omega)).trans (by omega)) rfl ?_
      refine row_eq (zs := xs.take (i + 1) ++ xs.drop i) (by subst hln; exact shift_typed encSmp hi.2 (show us.length = 7 by omega)) ?_
      refine ol_nil (to_k0 (fun _ _ h => h) (hK14 _ _ _ _ _ ?_))
      clear hK14
      refine wp_seq' fun K15 hK15 => ?_
      refine wp_reg ?_
      refine ol_r (r_move rfl) rfl ?_
      refine ol_r (r_move rfl) rfl ?_
      refine ol_r (r_slT (i := i) (n := n + 1) rfl rfl rfl sl53 (by omega)) rfl ?_
      refine ol_r (r_move rfl) rfl ?_
      refine ol_copyO (id := 1) (i := i) (n := n + 1) (m := 1) rfl rfl rfl rw53 (by rw [Enc.enc_len]; rfl) (encSmp.ones_enc [m]) (fun w1 hb1 hs1 hB1 => ⟨_, rfl, (Sat.rd hs1 (E := encSmp) (id := 3) rfl rfl).flat rfl⟩) (by omega) (by omega) (Nat.min_eq_left (by omega)) rfl ?_
      refine row_eq (zs := xs.take i ++ m :: xs.drop i) (zsS_2 (n := n) (by omega)) ?_
      refine ol_nil (to_k0 (fun _ _ h => h) (hK15 _ _ _ _ _ ?_))
      clear hK15
      refine wp_seq' fun K16 hK16 => ?_
      refine wp_reg ?_
      refine ol_r (r_move rfl) rfl ?_
      refine ol_r (r_assign rfl) rfl ?_
      refine ol_nil (to_k0 (fun _ _ h => h) (hK16 _ _ _ _ _ ?_))
      clear hK16
      refine hQ.ret (rvs1 (rv_t rfl)) (fun _ _ h => h) fun w hb hs hB hkd => ?_
      exact ⟨rfl, hb, hs.shadow.shadow.shadow, hB, hkd⟩
     ·exfalso
      cases hc68
theorem insert_smp (B : Nat) (a : Option Addr) (n c : Nat) (xs : List SmpR) (i : Nat) (m : SmpR) (va : Option Addr) (vc : Nat) (H : HL) (w : World) (hB : B ≤ w.heap.size) (hs0 : Sat B w ((1, .row a n c (encSmp.enc xs) 70 7) :: (3, .row va 1 vc (encSmp.enc [m]) 70 7) :: H)) (hi : 0 < i ∧ i < n) (hn : n ≤ 20000) :
    Calls Try.prog 39 #[.slice a n c, .int .i64 (i : Int), .slice va 1 vc] w fun e w' => ∃ a' c', e = .returned (.slice a' (n + 1) c') ∧ Below B w w' ∧ Sat B w' ((1, .row a' (n + 1) c' (encSmp.enc (xs.take i ++ m :: xs.drop i)) 70 7) :: (3, .row va 1 vc (encSmp.enc [m]) 70 7) :: H) ∧ B ≤ w'.heap.size ∧ Kd (fun _ => False) w w' := by
  have hrd := Sat.rd hs0 (E := encSmp) (id := 1) rfl rfl
  have hvd := Sat.rd hs0 (E := encSmp) (id := 3) rfl rfl
  by_cases hc : n + 1 ≤ c
  · refine (ins_shift B a n c xs i m va vc H w hB hs0 hi hc hn hrd.room.2).mono ?_
    rintro e w' ⟨rfl, h1, h2, h3, h4⟩
    exact ⟨a, c, rfl, h1, h2, h3, h4⟩
  · refine (ins_grow a n c xs i m va vc w hrd hvd hi (by omega) hn).mono ?_
    rintro e w' ⟨b, k, rfl, hf⟩
    exact ⟨b, k, rfl, hf.1.mono hB, (hs0.fresh hB 1 hf).shadow, Nat.le_trans hB hf.1.size, Kd.of_below hf.1⟩
end Go.Proofs.Ytfbmkepogcimlaa

/-
  slices.Clone and slices.Equal of samples, laps and strings.
-/



namespace Go.Proofs.Ytfbmkepogcimlaa
open Go Go.RowKit Hx
set_option linter.unusedVariables false
set_option linter.unusedSimpArgs false
set_option maxRecDepth 8000
theorem ba_beq (a : ByteArray) : (a == a) = true := by
  first
    | exact beq_self_eq_true a
    | (show (a.data == a.data) = true; exact beq_self_eq_true _)
theorem sEq_refl (a : ByteArray) : sEq a a = true := by unfold sEq; exact beq_self_eq_true _
theorem clone_smp (a : Option Addr) (n c1 : Nat) (xs : List SmpR) (w : World) (hx : Rd encSmp w.heap.size w a n c1 xs) (hn : n ≤ 1000000) :
    Calls Try.prog 40 #[.slice a n c1] w fun e w' => ∃ b m k, e = .returned (.slice b m k) ∧ Fresh encSmp 70 w w' b m k xs := by
  have hl := hx.len
  refine enterQ (N := 8) (C := fun _ => True) (H := []) (B := w.heap.size) (args := [_]) Try.func40 rfl rfl rfl (Nat.le_refl _) (Sat.nil _ _) fun Q hQ => ?_
  refine wp_seq' fun K1 hK1 => ?_
  refine wp_reg ?_
  refine ol_r (r_assign rfl) rfl ?_
  refine ol_nil (to_k0 (fun _ _ h => h) (hK1 _ _ _ _ _ ?_))
  clear hK1
  refine wp_seq' fun K2 hK2 => ?_
  refine wp_seq' fun K3 hK3 => ?_
  refine wp_reg ?_
  refine ol_r (r_move rfl) rfl ?_
  refine ol_r (r_snil rfl rfl sl53) rfl ?_
  refine ol_nil (to_k0 (fun _ _ h => h) (hK3 _ _ _ _ _ ?_))
  clear hK3
  refine wp_cond' rfl (fun hc4 => ?_) (fun hc4 => ?_)
  ·refine wp_seq' fun K4 hK4 => ?_
   refine wp_reg ?_
   refine ol_r (r_assign rfl) rfl ?_
   refine ol_nil (to_k0 (fun _ _ h => h) (hK4 _ _ _ _ _ ?_))
   clear hK4
   refine hQ.ret (rvs1 (rv_t rfl)) (fun _ _ h => h) fun w hb hs hB hkd => ?_
   have h0 : n = 0 := by
     cases n with
     | zero => rfl
     | succ m => have := hx.isSome (by omega); cases a <;> simp at this hc4
   have : xs = [] := List.eq_nil_of_length_eq_zero (by omega)
   subst this
   exact ⟨none, 0, 0, rfl, Fresh.nil hb⟩
  ·refine wp_skip' (to_k0 (fun _ _ h => h) (hK2 _ _ _ _ _ ?_))
   clear hK2
   refine wp_seq' fun K5 hK5 => ?_
   refine wp_reg ?_
   refine ol_bs0 5 rw53 rfl fun b5 => ?_
   refine ol_r (r_move rfl) rfl ?_
   refine ol_append (id := 5) (news := encSmp.enc xs) rfl rfl rfl rw53 (by rw [Enc.enc_len, hl]; rfl) (encSmp.ones_enc xs) (fun w1 hb1 hs1 hB1 => ?_) (by omega) rfl fun a7 c7 => ?_
   · obtain ⟨p, hp⟩ : ∃ p, a = some p := by cases a with | none => simp at hc4 | some p => exact ⟨p, rfl⟩
     exact ⟨p, hp, (hx.below hb1).flat hp⟩
   refine ol_r (r_assign rfl) rfl ?_
   refine ol_nil (to_k0 (fun _ _ h => h) (hK5 _ _ _ _ _ ?_))
   clear hK5
   refine hQ.ret (rvs1 (rv_t rfl)) (fun _ _ h => h) fun w hb hs hB hkd => ?_
   refine ⟨a7, 0 + n, c7, rfl, hb, ?_⟩
   have := hs.ok 5 _ rfl
   exact this
theorem equal_smp_same (a b : Option Addr) (n c1 c2 : Nat) (xs : List SmpR) (w : World) (hx : Rd encSmp w.heap.size w a n c1 xs) (hy : Rd encSmp w.heap.size w b n c2 xs) :
    Calls Try.prog 25 #[.slice a n c1, .slice b n c2] w fun e w' => e = .returned (.bool true) ∧ Below w.heap.size w w' := by
  have hn := hx.len
  have hf := hx.fit
  refine enterQ (N := 26) (C := fun _ => True) (H := []) (B := w.heap.size) (args := [_, _]) Try.func25 rfl rfl rfl (Nat.le_refl _) (Sat.nil _ _) fun Q hQ => ?_
  refine wp_seq' fun K1 hK1 => ?_
  refine wp_reg ?_
  refine ol_r (r_assign rfl) rfl ?_
  refine ol_nil (to_k0 (fun _ _ h => h) (hK1 _ _ _ _ _ ?_))
  clear hK1
  refine wp_seq' fun K2 hK2 => ?_
  refine wp_seq' fun K3 hK3 => ?_
  refine wp_reg ?_
  refine ol_r (r_move rfl) rfl ?_
  refine ol_r (r_len rfl sl53) rfl ?_
  refine ol_r (r_move rfl) rfl ?_
  refine ol_r (r_len rfl sl53) rfl ?_
  refine ol_r (r_neq rfl rfl) rfl ?_
  refine ol_nil (to_k0 (fun _ _ h => h) (hK3 _ _ _ _ _ ?_))
  clear hK3
  refine wp_condD rfl (fun hc10 => ?_) (fun hc10 => ?_)
  ·refine wp_seq' fun K4 hK4 => ?_
   refine wp_reg ?_
   refine ol_r (r_assign rfl) rfl ?_
   refine ol_nil (to_k0 (fun _ _ h => h) (hK4 _ _ _ _ _ ?_))
   clear hK4
   refine hQ.ret (rvs1 (rv_t rfl)) (fun _ _ h => h) fun w hb hs hB hkd => ?_
   first
     | (exfalso; omega)
  ·refine wp_skip' (to_k0 (fun _ _ h => h) (hK2 _ _ _ _ _ ?_))
   clear hK2
   refine wp_seq' fun K5 hK5 => ?_
   refine wp_seq' fun K6 hK6 => ?_
   refine wp_reg ?_
   refine ol_r (r_move rfl) rfl ?_
   refine ol_r (r_len rfl sl53) rfl ?_
   refine ol_r (r_move rfl) rfl ?_
   refine ol_nil (to_k0 (fun _ _ h => h) (hK6 _ _ _ _ _ ?_))
   clear hK6
   refine wp_block' ?_
   apply wp_loopM (σ := Nat) (fun s => s ≤ n) (fun s => [(13, .int .i64 s)]) [(0, _), (1, _), (12, _)] (fun s => []) [] (fun s => n - s) (0)
   ·try dsimp only
    simp
   ·exact (sub_cons rfl sub_nil)
   ·exact (sub_cons rfl (sub_cons rfl (sub_cons rfl sub_nil)))
   ·exact subH_nil
   ·exact subH_nil
   ·intro k hk
    intro K7 hK7
    refine wp_seq' fun K8 hK8 => ?_
    refine wp_reg ?_
    refine ol_r (r_lss rfl rfl) rfl ?_
    refine ol_nil (to_k0 (fun _ _ h => h) (hK8 _ _ _ _ _ ?_))
    clear hK8
    refine wp_seq' fun K9 hK9 => ?_
    refine wp_condD rfl (fun hc14 => ?_) (fun hc14 => ?_)
    ·refine wp_skip' (to_k0 (fun _ _ h => h) (hK9 _ _ _ _ _ ?_))
     clear hK9
     refine wp_seq' fun K10 hK10 => ?_
     refine wp_block' ?_
     refine wp_seq' fun K11 hK11 => ?_
     refine wp_reg ?_
     refine ol_r (r_move rfl) rfl ?_
     refine ol_r (r_assign rfl) rfl ?_
     refine ol_nil (to_k0 (fun _ _ h => h) (hK11 _ _ _ _ _ ?_))
     clear hK11
     refine wp_seq' fun K12 hK12 => ?_
     refine wp_regq (by kernel_rfl) (by kernel_rfl) ?_
     refine ql_r (r_move rfl) rfl ?_
     refine ql_r (r_move rfl) rfl ?_
     refine ql_ixr hx rfl rfl sl53 (by omega) rfl fun x18 hx18 => ?_
     try simp only [Int.toNat_natCast] at hx18
     refine ql_r (r_ldw rfl (fun w1 hb1 hs1 hB1 => Rd.loads hx ty70 hx18 hb1)) rfl ?_
     refine ql_r (r_move rfl) rfl ?_
     refine ql_r (r_move rfl) rfl ?_
     refine ql_ixr hy rfl rfl sl53 (by omega) rfl fun x22 hx22 => ?_
     try simp only [Int.toNat_natCast] at hx22
     have h22 : x22 = x18 := by rw [hx18] at hx22; cases hx22; rfl
     subst h22
     refine ql_r (r_ldw rfl (fun w1 hb1 hs1 hB1 => Rd.loads hy ty70 hx22 hb1)) rfl ?_
     refine ql_r (r_nes rfl rfl (by kernel_rfl) (fun w => run_eqs (by kernel_rfl) (by kernel_rfl) w)) rfl ?_
     refine ql_nil (to_k0 (fun _ _ h => h) (hK12 _ _ _ _ _ ?_))
     clear hK12
     refine wp_condNB rfl (fun hc24 => ?_) (fun hc24 => ?_)
     ·refine wp_seq' fun K13 hK13 => ?_
      refine wp_reg ?_
      refine ol_r (r_assign rfl) rfl ?_
      refine ol_nil (to_k0 (fun _ _ h => h) (hK13 _ _ _ _ _ ?_))
      clear hK13
      refine hQ.ret (rvs1 (rv_t rfl)) (fun _ _ h => h) fun w hb hs hB hkd => ?_
      first
        | (exfalso; simp [eqs, eqV, encSmp] at hc24; done)
     ·refine wp_skip' (to_k0 (fun _ _ h => h) (hK10 _ _ _ _ _ ?_))
      clear hK10
      refine wp_reg ?_
      refine ol_r (r_add rfl rfl (by omega)) rfl ?_
      refine ol_r (r_move rfl) rfl ?_
      refine ol_nil (to_k0 (fun _ _ h => h) (hK7 (k + 1) _ _ ?_ ?_ (sub_cons rfl sub_nil) (sub_cons rfl (sub_cons rfl (sub_cons rfl sub_nil))) (by exact subH_nil) subH_nil))
      ·try dsimp only
       omega
      ·try dsimp only
       omega
    ·refine wp_exit' (to_k0 (fun _ _ h => h) (hK5 _ _ _ _ _ ?_))
     clear hK5
     refine wp_seq' fun K14 hK14 => ?_
     refine wp_reg ?_
     refine ol_r (r_assign rfl) rfl ?_
     refine ol_nil (to_k0 (fun _ _ h => h) (hK14 _ _ _ _ _ ?_))
     clear hK14
     refine hQ.ret (rvs1 (rv_t rfl)) (fun _ _ h => h) fun w hb hs hB hkd => ?_
     first
       | exact ⟨rfl, hb⟩
theorem clone_lap (a : Option Addr) (n c1 : Nat) (xs : List LapR) (w : World) (hx : Rd encLap w.heap.size w a n c1 xs) (hn : n ≤ 1000000) :
    Calls Try.prog 80 #[.slice a n c1] w fun e w' => ∃ b m k, e = .returned (.slice b m k) ∧ Fresh encLap 110 w w' b m k xs := by
  have hl := hx.len
  refine enterQ (N := 8) (C := fun _ => True) (H := []) (B := w.heap.size) (args := [_]) Try.func80 rfl rfl rfl (Nat.le_refl _) (Sat.nil _ _) fun Q hQ => ?_
  refine wp_seq' fun K1 hK1 => ?_
  refine wp_reg ?_
  refine ol_r (r_assign rfl) rfl ?_
  refine ol_nil (to_k0 (fun _ _ h => h) (hK1 _ _ _ _ _ ?_))
  clear hK1
  refine wp_seq' fun K2 hK2 => ?_
  refine wp_seq' fun K3 hK3 => ?_
  refine wp_reg ?_
  refine ol_r (r_move rfl) rfl ?_
  refine ol_r (r_snil rfl rfl sl54) rfl ?_
  refine ol_nil (to_k0 (fun _ _ h => h) (hK3 _ _ _ _ _ ?_))
  clear hK3
  refine wp_cond' rfl (fun hc4 => ?_) (fun hc4 => ?_)
  ·refine wp_seq' fun K4 hK4 => ?_
   refine wp_reg ?_
   refine ol_r (r_assign rfl) rfl ?_
   refine ol_nil (to_k0 (fun _ _ h => h) (hK4 _ _ _ _ _ ?_))
   clear hK4
   refine hQ.ret (rvs1 (rv_t rfl)) (fun _ _ h => h) fun w hb hs hB hkd => ?_
   have h0 : n = 0 := by
     cases n with
     | zero => rfl
     | succ m => have := hx.isSome (by omega); cases a <;> simp at this hc4
   have : xs = [] := List.eq_nil_of_length_eq_zero (by omega)
   subst this
   exact ⟨none, 0, 0, rfl, Fresh.nil hb⟩
  ·refine wp_skip' (to_k0 (fun _ _ h => h) (hK2 _ _ _ _ _ ?_))
   clear hK2
   refine wp_seq' fun K5 hK5 => ?_
   refine wp_reg ?_
   refine ol_bs0 5 rw54 rfl fun b5 => ?_
   refine ol_r (r_move rfl) rfl ?_
   refine ol_append (id := 5) (news := encLap.enc xs) rfl rfl rfl rw54 (by rw [Enc.enc_len, hl]; rfl) (encLap.ones_enc xs) (fun w1 hb1 hs1 hB1 => ?_) (by omega) rfl fun a7 c7 => ?_
   · obtain ⟨p, hp⟩ : ∃ p, a = some p := by cases a with | none => simp at hc4 | some p => exact ⟨p, rfl⟩
     exact ⟨p, hp, (hx.below hb1).flat hp⟩
   refine ol_r (r_assign rfl) rfl ?_
   refine ol_nil (to_k0 (fun _ _ h => h) (hK5 _ _ _ _ _ ?_))
   clear hK5
   refine hQ.ret (rvs1 (rv_t rfl)) (fun _ _ h => h) fun w hb hs hB hkd => ?_
   refine ⟨a7, 0 + n, c7, rfl, hb, ?_⟩
   have := hs.ok 5 _ rfl
   exact this
theorem clone_str (a : Option Addr) (n c1 : Nat) (xs : List ByteArray) (w : World) (hx : Rd encStr w.heap.size w a n c1 xs) (hn : n ≤ 1000000) :
    Calls Try.prog 81 #[.slice a n c1] w fun e w' => ∃ b m k, e = .returned (.slice b m k) ∧ Fresh encStr 9 w w' b m k xs := by
  have hl := hx.len
  refine enterQ (N := 8) (C := fun _ => True) (H := []) (B := w.heap.size) (args := [_]) Try.func81 rfl rfl rfl (Nat.le_refl _) (Sat.nil _ _) fun Q hQ => ?_
  refine wp_seq' fun K1 hK1 => ?_
  refine wp_reg ?_
  refine ol_r (r_assign rfl) rfl ?_
  refine ol_nil (to_k0 (fun _ _ h => h) (hK1 _ _ _ _ _ ?_))
  clear hK1
  refine wp_seq' fun K2 hK2 => ?_
  refine wp_seq' fun K3 hK3 => ?_
  refine wp_reg ?_
  refine ol_r (r_move rfl) rfl ?_
  refine ol_r (r_snil rfl rfl sl55) rfl ?_
  refine ol_nil (to_k0 (fun _ _ h => h) (hK3 _ _ _ _ _ ?_))
  clear hK3
  refine wp_cond' rfl (fun hc4 => ?_) (fun hc4 => ?_)
  ·refine wp_seq' fun K4 hK4 => ?_
   refine wp_reg ?_
   refine ol_r (r_assign rfl) rfl ?_
   refine ol_nil (to_k0 (fun _ _ h => h) (hK4 _ _ _ _ _ ?_))
   clear hK4
   refine hQ.ret (rvs1 (rv_t rfl)) (fun _ _ h => h) fun w hb hs hB hkd => ?_
   have h0 : n = 0 := by
     cases n with
     | zero => rfl
     | succ m => have := hx.isSome (by omega); cases a <;> simp at this hc4
   have : xs = [] := List.eq_nil_of_length_eq_zero (by omega)
   subst this
   exact ⟨none, 0, 0, rfl, Fresh.nil hb⟩
  ·refine wp_skip' (to_k0 (fun _ _ h => h) (hK2 _ _ _ _ _ ?_))
   clear hK2
   refine wp_seq' fun K5 hK5 => ?_
   refine wp_reg ?_
   refine ol_bs0 5 rw55 rfl fun b5 => ?_
   refine ol_r (r_move rfl) rfl ?_
   refine ol_append (id := 5) (news := encStr.enc xs) rfl rfl rfl rw55 (by rw [Enc.enc_len, hl]; rfl) (encStr.ones_enc xs) (fun w1 hb1 hs1 hB1 => ?_) (by omega) rfl fun a7 c7 => ?_
   · obtain ⟨p, hp⟩ : ∃ p, a = some p := by cases a with | none => simp at hc4 | some p => exact ⟨p, rfl⟩
     exact ⟨p, hp, (hx.below hb1).flat hp⟩
   refine ol_r (r_assign rfl) rfl ?_
   refine ol_nil (to_k0 (fun _ _ h => h) (hK5 _ _ _ _ _ ?_))
   clear hK5
   refine hQ.ret (rvs1 (rv_t rfl)) (fun _ _ h => h) fun w hb hs hB hkd => ?_
   refine ⟨a7, 0 + n, c7, rfl, hb, ?_⟩
   have := hs.ok 5 _ rfl
   exact this
theorem equal_str_same (a b : Option Addr) (n c1 c2 : Nat) (xs : List ByteArray) (w : World) (hx : Rd encStr w.heap.size w a n c1 xs) (hy : Rd encStr w.heap.size w b n c2 xs) :
    Calls Try.prog 26 #[.slice a n c1, .slice b n c2] w fun e w' => e = .returned (.bool true) ∧ Below w.heap.size w w' := by
  have hn := hx.len
  have hf := hx.fit
  refine enterQ (N := 26) (C := fun _ => True) (H := []) (B := w.heap.size) (args := [_, _]) Try.func26 rfl rfl rfl (Nat.le_refl _) (Sat.nil _ _) fun Q hQ => ?_
  refine wp_seq' fun K1 hK1 => ?_
  refine wp_reg ?_
  refine ol_r (r_assign rfl) rfl ?_
  refine ol_nil (to_k0 (fun _ _ h => h) (hK1 _ _ _ _ _ ?_))
  clear hK1
  refine wp_seq' fun K2 hK2 => ?_
  refine wp_seq' fun K3 hK3 => ?_
  refine wp_reg ?_
  refine ol_r (r_move rfl) rfl ?_
  refine ol_r (r_len rfl sl55) rfl ?_
  refine ol_r (r_move rfl) rfl ?_
  refine ol_r (r_len rfl sl55) rfl ?_
  refine ol_r (r_neq rfl rfl) rfl ?_
  refine ol_nil (to_k0 (fun _ _ h => h) (hK3 _ _ _ _ _ ?_))
  clear hK3
  refine wp_condD rfl (fun hc10 => ?_) (fun hc10 => ?_)
  ·refine wp_seq' fun K4 hK4 => ?_
   refine wp_reg ?_
   refine ol_r (r_assign rfl) rfl ?_
   refine ol_nil (to_k0 (fun _ _ h => h) (hK4 _ _ _ _ _ ?_))
   clear hK4
   refine hQ.ret (rvs1 (rv_t rfl)) (fun _ _ h => h) fun w hb hs hB hkd => ?_
   first
     | (exfalso; omega)
  ·refine wp_skip' (to_k0 (fun _ _ h => h) (hK2 _ _ _ _ _ ?_))
   clear hK2
   refine wp_seq' fun K5 hK5 => ?_
   refine wp_seq' fun K6 hK6 => ?_
   refine wp_reg ?_
   refine ol_r (r_move rfl) rfl ?_
   refine ol_r (r_len rfl sl55) rfl ?_
   refine ol_r (r_move rfl) rfl ?_
   refine ol_nil (to_k0 (fun _ _ h => h) (hK6 _ _ _ _ _ ?_))
   clear hK6
   refine wp_block' ?_
   apply wp_loopM (σ := Nat) (fun s => s ≤ n) (fun s => [(13, .int .i64 s)]) [(0, _), (1, _), (12, _)] (fun s => []) [] (fun s => n - s) (0)
   ·try dsimp only
    simp
   ·exact (sub_cons rfl sub_nil)
   ·exact (sub_cons rfl (sub_cons rfl (sub_cons rfl sub_nil)))
   ·exact subH_nil
   ·exact subH_nil
   ·intro k hk
    intro K7 hK7
    refine wp_seq' fun K8 hK8 => ?_
    refine wp_reg ?_
    refine ol_r (r_lss rfl rfl) rfl ?_
    refine ol_nil (to_k0 (fun _ _ h => h) (hK8 _ _ _ _ _ ?_))
    clear hK8
    refine wp_seq' fun K9 hK9 => ?_
    refine wp_condD rfl (fun hc14 => ?_) (fun hc14 => ?_)
    ·refine wp_skip' (to_k0 (fun _ _ h => h) (hK9 _ _ _ _ _ ?_))
     clear hK9
     refine wp_seq' fun K10 hK10 => ?_
     refine wp_block' ?_
     refine wp_seq' fun K11 hK11 => ?_
     refine wp_reg ?_
     refine ol_r (r_move rfl) rfl ?_
     refine ol_r (r_assign rfl) rfl ?_
     refine ol_nil (to_k0 (fun _ _ h => h) (hK11 _ _ _ _ _ ?_))
     clear hK11
     refine wp_seq' fun K12 hK12 => ?_
     refine wp_regq (by kernel_rfl) (by kernel_rfl) ?_
     refine ql_r (r_move rfl) rfl ?_
     refine ql_r (r_move rfl) rfl ?_
     refine ql_ixr hx rfl rfl sl55 (by omega) rfl fun x18 hx18 => ?_
     try simp only [Int.toNat_natCast] at hx18
     refine ql_r (r_ldw rfl (fun w1 hb1 hs1 hB1 => Rd.loads hx ty9 hx18 hb1)) rfl ?_
     refine ql_r (r_move rfl) rfl ?_
     refine ql_r (r_move rfl) rfl ?_
     refine ql_ixr hy rfl rfl sl55 (by omega) rfl fun x22 hx22 => ?_
     try simp only [Int.toNat_natCast] at hx22
     have h22 : x22 = x18 := by rw [hx18] at hx22; cases hx22; rfl
     subst h22
     refine ql_r (r_ldw rfl (fun w1 hb1 hs1 hB1 => Rd.loads hy ty9 hx22 hb1)) rfl ?_
     refine ql_r (r_sneq rfl rfl) rfl ?_
     refine ql_nil (to_k0 (fun _ _ h => h) (hK12 _ _ _ _ _ ?_))
     clear hK12
     refine wp_condNB rfl (fun hc24 => ?_) (fun hc24 => ?_)
     ·refine wp_seq' fun K13 hK13 => ?_
      refine wp_reg ?_
      refine ol_r (r_assign rfl) rfl ?_
      refine ol_nil (to_k0 (fun _ _ h => h) (hK13 _ _ _ _ _ ?_))
      clear hK13
      refine hQ.ret (rvs1 (rv_t rfl)) (fun _ _ h => h) fun w hb hs hB hkd => ?_
      first
        | (exfalso; rw [sEq_refl] at hc24; cases hc24; done)
     ·refine wp_skip' (to_k0 (fun _ _ h => h) (hK10 _ _ _ _ _ ?_))
      clear hK10
      refine wp_reg ?_
      refine ol_r (r_add rfl rfl (by omega)) rfl ?_
      refine ol_r (r_move rfl) rfl ?_
      refine ol_nil (to_k0 (fun _ _ h => h) (hK7 (k + 1) _ _ ?_ ?_ (sub_cons rfl sub_nil) (sub_cons rfl (sub_cons rfl (sub_cons rfl sub_nil))) (by exact subH_nil) subH_nil))
      ·try dsimp only
       omega
      ·try dsimp only
       omega
    ·refine wp_exit' (to_k0 (fun _ _ h => h) (hK5 _ _ _ _ _ ?_))
     clear hK5
     refine wp_seq' fun K14 hK14 => ?_
     refine wp_reg ?_
     refine ol_r (r_assign rfl) rfl ?_
     refine ol_nil (to_k0 (fun _ _ h => h) (hK14 _ _ _ _ _ ?_))
     clear hK14
     refine hQ.ret (rvs1 (rv_t rfl)) (fun _ _ h => h) fun w hb hs hB hkd => ?_
     first
       | exact ⟨rfl, hb⟩
end Go.Proofs.Ytfbmkepogcimlaa

/-
  An activity with one sample more, just between two others.
-/



namespace Go.Proofs.Ytfbmkepogcimlaa
open Go Go.RowKit Hx
set_option linter.unusedVariables false
set_option linter.unusedSimpArgs false
set_option maxRecDepth 8000
def SmpB (p : SmpR) : Prop := (0 ≤ p.at_ ∧ p.at_ ≤ 1000000) ∧ (-100000000 ≤ p.x ∧ p.x ≤ 100000000) ∧ (-100000000 ≤ p.y ∧ p.y ≤ 100000000)
theorem hMidst_yes (A : ActV) (k : Nat) (p q : SmpR) (w : World) (hA : A.Ok w.heap.size w) (hp : A.ss[k]? = some p) (hq : A.ss[k + 1]? = some q) (hl : A.ss.length < 20000) (bp : SmpB p) (bq : SmpB q)
    (h1 : (p.at_ + q.at_) % 2 = 0) (h2 : (p.x + q.x).tmod 2 = 0) (h3 : (p.y + q.y).tmod 2 = 0) :
    Calls Try.prog 15 #[.agg #[.string A.name, .int .i64 A.sport, .int .i64 A.start, .slice A.sa A.sn A.sc, .slice A.la A.ln A.lc, .slice A.ta A.tn A.tc], .int .i64 (k : Int)] w fun e w' => ∃ b c, e = .returned (.tuple #[.agg #[.string A.name, .int .i64 A.sport, .int .i64 A.start, .slice b (A.sn + 1) c, .slice A.la A.ln A.lc, .slice A.ta A.tn A.tc], .bool true]) ∧ Fresh encSmp 70 w w' b (A.sn + 1) c (insS A.ss k (midR p q)) := by
  have hsn := hA.s.len
  have hlt := (List.getElem?_eq_some_iff.1 hq).1
  obtain ⟨bp1, bp2, bp3⟩ := bp
  obtain ⟨bq1, bq2, bq3⟩ := bq
  refine enterQ (N := 95) (C := fun _ => True) (H := []) (B := w.heap.size) (args := [_, _]) Try.func15 rfl rfl rfl (Nat.le_refl _) (Sat.nil _ _) fun Q hQ => ?_
  refine wp_seq' fun K1 hK1 => ?_
  refine wp_reg ?_
  refine ol_box 2 rfl rfl rfl fun b2 => ?_
  refine ol_alloc 4 z57 rfl fun b4 => ?_
  refine ol_r (r_assign rfl) rfl ?_
  refine ol_nil (to_k0 (fun _ _ h => h) (hK1 _ _ _ _ _ ?_))
  clear hK1
  refine wp_seq' fun K2 hK2 => ?_
  refine wp_seq' fun K3 hK3 => ?_
  refine wp_reg ?_
  refine ol_r (r_move rfl) rfl ?_
  refine ol_r (r_lss rfl rfl) rfl ?_
  refine ol_r (r_move rfl) rfl ?_
  refine ol_split (d := 11) rfl (fun hs11 => ?_) (fun hs11 => ?_)
  ·have phs11 := hs11; try simp only [decide_eq_true_eq, decide_eq_false_iff_not, Bool.not_eq_true', Bool.not_eq_false', Bool.not_true, Bool.not_false] at phs11
   exfalso
   omega
  ·have phs11 := hs11; try simp only [decide_eq_true_eq, decide_eq_false_iff_not, Bool.not_eq_true', Bool.not_eq_false', Bool.not_true, Bool.not_false] at phs11
   refine ol_g rfl rfl hs11 ?_
   refine ol_r (r_move rfl) rfl ?_
   refine ol_g rfl rfl hs11 ?_
   refine ol_r (r_fa (o' := 3) rfl fl57_3 rfl) rfl ?_
   refine ol_g rfl rfl hs11 ?_
   refine ol_r (r_ld (id := 2) rfl rfl rfl sc53) rfl ?_
   refine ol_g rfl rfl hs11 ?_
   refine ol_r (r_len rfl sl53) rfl ?_
   refine ol_g rfl rfl hs11 ?_
   refine ol_r (r_sub rfl rfl (by omega)) rfl ?_
   refine ol_g rfl rfl hs11 ?_
   refine ol_r (r_geq rfl rfl) rfl ?_
   refine ol_r (r_pickF rfl hs11 rfl) rfl ?_
   refine ol_r (r_move rfl) rfl ?_
   refine ol_split (d := 19) rfl (fun hs19 => ?_) (fun hs19 => ?_)
   ·have phs19 := hs19; try simp only [decide_eq_true_eq, decide_eq_false_iff_not, Bool.not_eq_true', Bool.not_eq_false', Bool.not_true, Bool.not_false] at phs19
    exfalso
    omega
   ·have phs19 := hs19; try simp only [decide_eq_true_eq, decide_eq_false_iff_not, Bool.not_eq_true', Bool.not_eq_false', Bool.not_true, Bool.not_false] at phs19
    refine ol_g rfl rfl hs19 ?_
    refine ol_r (r_fa (o' := 3) rfl fl57_3 rfl) rfl ?_
    refine ol_g rfl rfl hs19 ?_
    refine ol_r (r_ld (id := 2) rfl rfl rfl sc53) rfl ?_
    refine ol_g rfl rfl hs19 ?_
    refine ol_r (r_len rfl sl53) rfl ?_
    refine ol_g rfl rfl hs19 ?_
    refine ol_r (r_geq rfl rfl) rfl ?_
    refine ol_r (r_pickF rfl hs19 rfl) rfl ?_
    refine ol_nil (to_k0 (fun _ _ h => h) (hK3 _ _ _ _ _ ?_))
    clear hK3
    first | refine wp_condD rfl (fun hc24 => ?_) (fun hc24 => ?_) | refine wp_condN rfl (fun hc24 => ?_) (fun hc24 => ?_) | refine wp_condNB rfl (fun hc24 => ?_) (fun hc24 => ?_) | refine wp_cond' rfl (fun hc24 => ?_) (fun hc24 => ?_)
    ·exfalso
     omega
    ·refine wp_skip' (to_k0 (fun _ _ h => h) (hK2 _ _ _ _ _ ?_))
     clear hK2
     apply wp_seq_cutM (σ := Nat × Nat) (fun s => True) (fun s => [(6, .pointer (some ⟨s.1, 0, none⟩)), (7, .pointer (some ⟨s.2, 0, none⟩))]) [(1, _), (2, _), (4, _), (5, _)] (fun s => [(6, .blk s.1 (pairs 0 [.int .i64 p.at_, .int .i64 p.x, .int .i64 p.y, .int .i64 p.z, .int .i64 p.pulse, .int .i64 p.power, .int .i64 p.steps]) 70), (7, .blk s.2 (pairs 0 [.int .i64 q.at_, .int .i64 q.x, .int .i64 q.y, .int .i64 q.z, .int .i64 q.pulse, .int .i64 q.power, .int .i64 q.steps]) 70)]) [(2, _), (4, _)]
     ·exact (sub_cons rfl (sub_cons rfl (sub_cons rfl (sub_cons rfl sub_nil))))
     ·exact (subH_same rfl (subH_same rfl subH_nil))
     ·intro K4 hK4
      refine wp_rega [(999, [(2, _), (4, _)])] (by kernel_rfl) ⟨.inr (subH_same rfl (subH_same rfl subH_nil)), trivial⟩ ?_
      refine aq_r 0 999 rfl (by kernel_rfl) (by kernel_rfl) (by kernel_rfl) (.head _) (by kernel_rfl) (by kernel_rfl) rfl (r_fa (o' := 3) rfl fl57_3 rfl) ?_
      refine aq_r 1 999 rfl (by kernel_rfl) (by kernel_rfl) (by kernel_rfl) (.head _) (by kernel_rfl) (by kernel_rfl) rfl (r_ld (id := 2) rfl rfl rfl sc53) ?_
      refine aq_r 2 999 rfl (by kernel_rfl) (by kernel_rfl) (by kernel_rfl) (.head _) (by kernel_rfl) (by kernel_rfl) rfl (r_move rfl) ?_
      refine aq_ixr 3 999 rfl (by kernel_rfl) (by kernel_rfl) (by kernel_rfl) (.head _) (by kernel_rfl) (by kernel_rfl) rfl hA.s rfl rfl sl53 (by omega) fun x29 hx29 => ?_
      try simp only [Int.toNat_natCast] at hx29
      obtain rfl : x29 = p := Option.some.inj (hx29.symm.trans hp)
      refine aq_r 4 999 rfl (by kernel_rfl) (by kernel_rfl) (by kernel_rfl) (.head _) (by kernel_rfl) (by kernel_rfl) rfl (r_ldw rfl (fun w1 hb1 hs1 hB1 => Rd.loads hA.s ty70 hx29 hb1)) ?_
      refine aq_r 5 999 rfl (by kernel_rfl) (by kernel_rfl) (by kernel_rfl) (.head _) (by kernel_rfl) (by kernel_rfl) rfl (r_fa (o' := 3) rfl fl57_3 rfl) ?_
      refine aq_r 6 999 rfl (by kernel_rfl) (by kernel_rfl) (by kernel_rfl) (.head _) (by kernel_rfl) (by kernel_rfl) rfl (r_ld (id := 2) rfl rfl rfl sc53) ?_
      refine aq_r 7 999 rfl (by kernel_rfl) (by kernel_rfl) (by kernel_rfl) (.head _) (by kernel_rfl) (by kernel_rfl) rfl (r_move rfl) ?_
      refine aq_r 8 999 rfl (by kernel_rfl) (by kernel_rfl) (by kernel_rfl) (.head _) (by kernel_rfl) (by kernel_rfl) rfl (r_add rfl rfl (by omega)) ?_
      refine aq_ixr 9 999 rfl (by kernel_rfl) (by kernel_rfl) (by kernel_rfl) (.head _) (by kernel_rfl) (by kernel_rfl) rfl hA.s rfl rfl sl53 (by omega) fun x35 hx35 => ?_
      try simp only [Int.toNat_natCast] at hx35
      obtain rfl : x35 = q := Option.some.inj (hx35.symm.trans hq)
      refine aq_r 10 999 rfl (by kernel_rfl) (by kernel_rfl) (by kernel_rfl) (.head _) (by kernel_rfl) (by kernel_rfl) rfl (r_ldw rfl (fun w1 hb1 hs1 hB1 => Rd.loads hA.s ty70 hx35 hb1)) ?_
      refine aq_two (i := 11) (j := 12) (by kernel_rfl) rfl rfl (fun K5 hK5 => ?_) (fun K5 hK5 => ?_)
      ·refine ol_alloc 6 z70 rfl fun b6 => ?_
       refine ol_nil (to_k0 (fun _ _ h => h) (hK5 _ _ ⟨.inr (by repeat' first | exact subH_nil | refine subH_same rfl ?_ | (refine subH_blk rfl (by repeat' first | exact sub_nil | refine sub_cons rfl ?_) ?_)), trivial⟩ ?_))
       clear hK5
       refine aq_one (i := 12) (by kernel_rfl) rfl fun K6 hK6 => ?_
       refine ol_alloc 7 z70 rfl fun b7 => ?_
       refine ol_nil (to_k0 (fun _ _ h => h) (hK6 _ _ ⟨.inr (by repeat' first | exact subH_nil | refine subH_same rfl ?_ | (refine subH_blk rfl (by repeat' first | exact sub_nil | refine sub_cons rfl ?_) ?_)), trivial⟩ ?_))
       clear hK6
       refine aq_one (i := 13) (by kernel_rfl) rfl fun K7 hK7 => ?_
       refine ol_store (id := 6) rfl rfl rfl rfl sz70 rfl rfl (by first | decide | exact Nat.zero_lt_succ _ | simp) ?_
       refine ol_nil (to_k0 (fun _ _ h => h) (hK7 _ _ ⟨.inr (by repeat' first | exact subH_nil | refine subH_same rfl ?_ | (refine subH_blk rfl (by repeat' first | exact sub_nil | refine sub_cons rfl ?_) ?_)), trivial⟩ ?_))
       clear hK7
       refine aq_one (i := 14) (by kernel_rfl) rfl fun K8 hK8 => ?_
       refine ol_store (id := 7) rfl rfl rfl rfl sz70 rfl rfl (by first | decide | exact Nat.zero_lt_succ _ | simp) ?_
       refine ol_nil (to_k0 (fun _ _ h => h) (hK8 _ _ ⟨.inr (by repeat' first | exact subH_nil | refine subH_same rfl ?_ | (refine subH_blk rfl (by repeat' first | exact sub_nil | refine sub_cons rfl ?_) ?_)), trivial⟩ ?_))
       clear hK8
       refine aq_done (by kernel_rfl) ?_
       refine (to_k0 (fun _ _ h => h) (hK4 ((b6, b7)) _ _ ?_ (sub_cons rfl (sub_cons rfl sub_nil)) (sub_cons rfl (sub_cons rfl (sub_cons rfl (sub_cons rfl sub_nil)))) (subH_blk rfl (by repeat' first | exact sub_nil | refine sub_cons rfl ?_) (subH_blk rfl (by repeat' first | exact sub_nil | refine sub_cons rfl ?_) subH_nil)) (subH_same rfl (subH_same rfl subH_nil))))
       try dsimp only
       all_goals trivial
      ·refine ol_alloc 7 z70 rfl fun b7 => ?_
       refine ol_nil (to_k0 (fun _ _ h => h) (hK5 _ _ ⟨.inr (by repeat' first | exact subH_nil | refine subH_same rfl ?_ | (refine subH_blk rfl (by repeat' first | exact sub_nil | refine sub_cons rfl ?_) ?_)), trivial⟩ ?_))
       clear hK5
       refine aq_one (i := 11) (by kernel_rfl) rfl fun K6 hK6 => ?_
       refine ol_alloc 6 z70 rfl fun b6 => ?_
       refine ol_nil (to_k0 (fun _ _ h => h) (hK6 _ _ ⟨.inr (by repeat' first | exact subH_nil | refine subH_same rfl ?_ | (refine subH_blk rfl (by repeat' first | exact sub_nil | refine sub_cons rfl ?_) ?_)), trivial⟩ ?_))
       clear hK6
       refine aq_one (i := 13) (by kernel_rfl) rfl fun K7 hK7 => ?_
       refine ol_store (id := 6) rfl rfl rfl rfl sz70 rfl rfl (by first | decide | exact Nat.zero_lt_succ _ | simp) ?_
       refine ol_nil (to_k0 (fun _ _ h => h) (hK7 _ _ ⟨.inr (by repeat' first | exact subH_nil | refine subH_same rfl ?_ | (refine subH_blk rfl (by repeat' first | exact sub_nil | refine sub_cons rfl ?_) ?_)), trivial⟩ ?_))
       clear hK7
       refine aq_one (i := 14) (by kernel_rfl) rfl fun K8 hK8 => ?_
       refine ol_store (id := 7) rfl rfl rfl rfl sz70 rfl rfl (by first | decide | exact Nat.zero_lt_succ _ | simp) ?_
       refine ol_nil (to_k0 (fun _ _ h => h) (hK8 _ _ ⟨.inr (by repeat' first | exact subH_nil | refine subH_same rfl ?_ | (refine subH_blk rfl (by repeat' first | exact sub_nil | refine sub_cons rfl ?_) ?_)), trivial⟩ ?_))
       clear hK8
       refine aq_done (by kernel_rfl) ?_
       refine (to_k0 (fun _ _ h => h) (hK4 ((b6, b7)) _ _ ?_ (sub_cons rfl (sub_cons rfl sub_nil)) (sub_cons rfl (sub_cons rfl (sub_cons rfl (sub_cons rfl sub_nil)))) (subH_blk rfl (by repeat' first | exact sub_nil | refine sub_cons rfl ?_) (subH_blk rfl (by repeat' first | exact sub_nil | refine sub_cons rfl ?_) subH_nil)) (subH_same rfl (subH_same rfl subH_nil))))
       try dsimp only
       all_goals trivial
     ·rintro ⟨b6, b7⟩ _
      dsimp only
      refine wp_seq' fun K9 hK9 => ?_
      refine wp_seq' fun K10 hK10 => ?_
      refine wp_reg ?_
      refine ol_r (r_fa (o' := 0) rfl fl70_0 rfl) rfl ?_
      refine ol_r (r_ld (id := 6) rfl rfl rfl sc3) rfl ?_
      refine ol_r (r_fa (o' := 0) rfl fl70_0 rfl) rfl ?_
      refine ol_r (r_ld (id := 7) rfl rfl rfl sc3) rfl ?_
      refine ol_r (r_add rfl rfl (by omega)) rfl ?_
      first | refine ol_r (r_rem rfl rfl (by omega)) rfl ?_ | refine ol_r (r_trem rfl rfl (by omega)) rfl ?_
      refine ol_r (r_neq rfl rfl) rfl ?_
      refine ol_r (r_move rfl) rfl ?_
      refine ol_split (d := 44) rfl (fun hs44 => ?_) (fun hs44 => ?_)
      ·have phs44 := hs44; try simp only [decide_eq_true_eq, decide_eq_false_iff_not, Bool.not_eq_true', Bool.not_eq_false', Bool.not_true, Bool.not_false] at phs44
       exfalso
       omega
      ·have phs44 := hs44; try simp only [decide_eq_true_eq, decide_eq_false_iff_not, Bool.not_eq_true', Bool.not_eq_false', Bool.not_true, Bool.not_false] at phs44
       refine ol_g rfl rfl hs44 ?_
       refine ol_r (r_fa (o' := 1) rfl fl70_1 rfl) rfl ?_
       refine ol_g rfl rfl hs44 ?_
       refine ol_r (r_ld (id := 6) rfl rfl rfl sc3) rfl ?_
       refine ol_g rfl rfl hs44 ?_
       refine ol_r (r_fa (o' := 1) rfl fl70_1 rfl) rfl ?_
       refine ol_g rfl rfl hs44 ?_
       refine ol_r (r_ld (id := 7) rfl rfl rfl sc3) rfl ?_
       refine ol_g rfl rfl hs44 ?_
       refine ol_r (r_add rfl rfl (by omega)) rfl ?_
       refine ol_g rfl rfl hs44 ?_
       first | refine ol_r (r_rem rfl rfl (by omega)) rfl ?_ | refine ol_r (r_trem rfl rfl (by omega)) rfl ?_
       refine ol_g rfl rfl hs44 ?_
       refine ol_r (r_neq rfl rfl) rfl ?_
       refine ol_r (r_pickF rfl hs44 rfl) rfl ?_
       refine ol_r (r_move rfl) rfl ?_
       refine ol_split (d := 53) rfl (fun hs53 => ?_) (fun hs53 => ?_)
       ·have phs53 := hs53; try simp only [decide_eq_true_eq, decide_eq_false_iff_not, Bool.not_eq_true', Bool.not_eq_false', Bool.not_true, Bool.not_false] at phs53
        exfalso
        omega
       ·have phs53 := hs53; try simp only [decide_eq_true_eq, decide_eq_false_iff_not, Bool.not_eq_true', Bool.not_eq_false', Bool.not_true, Bool.not_false] at phs53
        refine ol_g rfl rfl hs53 ?_
        refine ol_r (r_fa (o' := 2) rfl fl70_2 rfl) rfl ?_
        refine ol_g rfl rfl hs53 ?_
        refine ol_r (r_ld (id := 6) rfl rfl rfl sc3) rfl ?_
        refine ol_g rfl rfl hs53 ?_
        refine ol_r (r_fa (o' := 2) rfl fl70_2 rfl) rfl ?_
        refine ol_g rfl rfl hs53 ?_
        refine ol_r (r_ld (id := 7) rfl rfl rfl sc3) rfl ?_
        refine ol_g rfl rfl hs53 ?_
        refine ol_r (r_add rfl rfl (by omega)) rfl ?_
        refine ol_g rfl rfl hs53 ?_
        first | refine ol_r (r_rem rfl rfl (by omega)) rfl ?_ | refine ol_r (r_trem rfl rfl (by omega)) rfl ?_
        refine ol_g rfl rfl hs53 ?_
        refine ol_r (r_neq rfl rfl) rfl ?_
        refine ol_r (r_pickF rfl hs53 rfl) rfl ?_
        refine ol_nil (to_k0 (fun _ _ h => h) (hK10 _ _ _ _ _ ?_))
        clear hK10
        first | refine wp_condD rfl (fun hc61 => ?_) (fun hc61 => ?_) | refine wp_condN rfl (fun hc61 => ?_) (fun hc61 => ?_) | refine wp_condNB rfl (fun hc61 => ?_) (fun hc61 => ?_) | refine wp_cond' rfl (fun hc61 => ?_) (fun hc61 => ?_)
        ·exfalso
         omega
        ·refine wp_skip' (to_k0 (fun _ _ h => h) (hK9 _ _ _ _ _ ?_))
         clear hK9
         refine wp_seq' fun K11 hK11 => ?_
         refine wp_reg ?_
         refine ol_r (r_lda (id := 6) (n := 7) rfl rfl rfl ag70) rfl ?_
         refine ol_alloc 8 z70 rfl fun b8 => ?_
         refine ol_store (id := 8) rfl rfl rfl rfl sz70 rfl rfl (by first | decide | exact Nat.zero_lt_succ _ | simp) ?_
         refine ol_nil (to_k0 (fun _ _ h => h) (hK11 _ _ _ _ _ ?_))
         clear hK11
         refine wp_seq' fun K12 hK12 => ?_
         refine wp_rega [(999, [(2, _), (4, _), (6, _), (7, _)]), (19, [(8, _)])] (by kernel_rfl) ⟨.inr (subH_same rfl (subH_same rfl (subH_same rfl (subH_same rfl subH_nil)))), ⟨.inr (subH_same rfl subH_nil), trivial⟩⟩ ?_
         refine aq_r 0 999 rfl (by kernel_rfl) (by kernel_rfl) (by kernel_rfl) (.head _) (by kernel_rfl) (by kernel_rfl) rfl (r_fa (o' := 0) rfl fl70_0 rfl) ?_
         refine aq_r 1 999 rfl (by kernel_rfl) (by kernel_rfl) (by kernel_rfl) (.head _) (by kernel_rfl) (by kernel_rfl) rfl (r_ld (id := 6) rfl rfl rfl sc3) ?_
         refine aq_r 2 999 rfl (by kernel_rfl) (by kernel_rfl) (by kernel_rfl) (.head _) (by kernel_rfl) (by kernel_rfl) rfl (r_fa (o' := 0) rfl fl70_0 rfl) ?_
         refine aq_r 3 999 rfl (by kernel_rfl) (by kernel_rfl) (by kernel_rfl) (.head _) (by kernel_rfl) (by kernel_rfl) rfl (r_ld (id := 7) rfl rfl rfl sc3) ?_
         refine aq_r 4 999 rfl (by kernel_rfl) (by kernel_rfl) (by kernel_rfl) (.head _) (by kernel_rfl) (by kernel_rfl) rfl (r_add rfl rfl (by omega)) ?_
         first | refine aq_r 5 999 rfl (by kernel_rfl) (by kernel_rfl) (by kernel_rfl) (.head _) (by kernel_rfl) (by kernel_rfl) rfl (r_quo rfl rfl (by omega)) ?_ | refine aq_r 5 999 rfl (by kernel_rfl) (by kernel_rfl) (by kernel_rfl) (.head _) (by kernel_rfl) (by kernel_rfl) rfl (r_tquo rfl rfl (by omega)) ?_
         refine aq_r 6 999 rfl (by kernel_rfl) (by kernel_rfl) (by kernel_rfl) (.head _) (by kernel_rfl) (by kernel_rfl) rfl (r_fa (o' := 1) rfl fl70_1 rfl) ?_
         refine aq_r 7 999 rfl (by kernel_rfl) (by kernel_rfl) (by kernel_rfl) (.head _) (by kernel_rfl) (by kernel_rfl) rfl (r_ld (id := 6) rfl rfl rfl sc3) ?_
         refine aq_r 8 999 rfl (by kernel_rfl) (by kernel_rfl) (by kernel_rfl) (.head _) (by kernel_rfl) (by kernel_rfl) rfl (r_fa (o' := 1) rfl fl70_1 rfl) ?_
         refine aq_r 9 999 rfl (by kernel_rfl) (by kernel_rfl) (by kernel_rfl) (.head _) (by kernel_rfl) (by kernel_rfl) rfl (r_ld (id := 7) rfl rfl rfl sc3) ?_
         refine aq_r 10 999 rfl (by kernel_rfl) (by kernel_rfl) (by kernel_rfl) (.head _) (by kernel_rfl) (by kernel_rfl) rfl (r_add rfl rfl (by omega)) ?_
         first | refine aq_r 11 999 rfl (by kernel_rfl) (by kernel_rfl) (by kernel_rfl) (.head _) (by kernel_rfl) (by kernel_rfl) rfl (r_quo rfl rfl (by omega)) ?_ | refine aq_r 11 999 rfl (by kernel_rfl) (by kernel_rfl) (by kernel_rfl) (.head _) (by kernel_rfl) (by kernel_rfl) rfl (r_tquo rfl rfl (by omega)) ?_
         refine aq_r 12 999 rfl (by kernel_rfl) (by kernel_rfl) (by kernel_rfl) (.head _) (by kernel_rfl) (by kernel_rfl) rfl (r_fa (o' := 2) rfl fl70_2 rfl) ?_
         refine aq_r 13 999 rfl (by kernel_rfl) (by kernel_rfl) (by kernel_rfl) (.head _) (by kernel_rfl) (by kernel_rfl) rfl (r_ld (id := 6) rfl rfl rfl sc3) ?_
         refine aq_r 14 999 rfl (by kernel_rfl) (by kernel_rfl) (by kernel_rfl) (.head _) (by kernel_rfl) (by kernel_rfl) rfl (r_fa (o' := 2) rfl fl70_2 rfl) ?_
         refine aq_r 15 999 rfl (by kernel_rfl) (by kernel_rfl) (by kernel_rfl) (.head _) (by kernel_rfl) (by kernel_rfl) rfl (r_ld (id := 7) rfl rfl rfl sc3) ?_
         refine aq_r 16 999 rfl (by kernel_rfl) (by kernel_rfl) (by kernel_rfl) (.head _) (by kernel_rfl) (by kernel_rfl) rfl (r_add rfl rfl (by omega)) ?_
         first | refine aq_r 17 999 rfl (by kernel_rfl) (by kernel_rfl) (by kernel_rfl) (.head _) (by kernel_rfl) (by kernel_rfl) rfl (r_quo rfl rfl (by omega)) ?_ | refine aq_r 17 999 rfl (by kernel_rfl) (by kernel_rfl) (by kernel_rfl) (.head _) (by kernel_rfl) (by kernel_rfl) rfl (r_tquo rfl rfl (by omega)) ?_
         refine aq_r 18 999 rfl (by kernel_rfl) (by kernel_rfl) (by kernel_rfl) (.head _) (by kernel_rfl) (by kernel_rfl) rfl (r_fa (o' := 0) rfl fl70_0 rfl) ?_
         refine aq_one (i := 19) (by kernel_rfl) rfl fun K13 hK13 => ?_
         refine ol_store (id := 8) rfl rfl rfl rfl sz3 rfl rfl (by first | decide | exact Nat.zero_lt_succ _ | simp) ?_
         refine ol_nil (to_k0 (fun _ _ h => h) (hK13 _ _ ⟨.inr (by repeat' first | exact subH_nil | refine subH_same rfl ?_ | (refine subH_blk rfl (by repeat' first | exact sub_nil | refine sub_cons rfl ?_) ?_)), ⟨.inl (by kernel_rfl), trivial⟩⟩ ?_))
         clear hK13
         refine aq_r 20 999 rfl (by kernel_rfl) (by kernel_rfl) (by kernel_rfl) (.head _) (by kernel_rfl) (by kernel_rfl) rfl (r_fa (o' := 1) rfl fl70_1 rfl) ?_
         refine aq_one (i := 21) (by kernel_rfl) rfl fun K14 hK14 => ?_
         refine ol_store (id := 8) rfl rfl rfl rfl sz3 rfl rfl (by first | decide | exact Nat.zero_lt_succ _ | simp) ?_
         refine ol_nil (to_k0 (fun _ _ h => h) (hK14 _ _ ⟨.inr (by repeat' first | exact subH_nil | refine subH_same rfl ?_ | (refine subH_blk rfl (by repeat' first | exact sub_nil | refine sub_cons rfl ?_) ?_)), ⟨.inl (by kernel_rfl), trivial⟩⟩ ?_))
         clear hK14
         refine aq_r 22 999 rfl (by kernel_rfl) (by kernel_rfl) (by kernel_rfl) (.head _) (by kernel_rfl) (by kernel_rfl) rfl (r_fa (o' := 2) rfl fl70_2 rfl) ?_
         refine aq_one (i := 23) (by kernel_rfl) rfl fun K15 hK15 => ?_
         refine ol_store (id := 8) rfl rfl rfl rfl sz3 rfl rfl (by first | decide | exact Nat.zero_lt_succ _ | simp) ?_
         refine ol_nil (to_k0 (fun _ _ h => h) (hK15 _ _ ⟨.inr (by repeat' first | exact subH_nil | refine subH_same rfl ?_ | (refine subH_blk rfl (by repeat' first | exact sub_nil | refine sub_cons rfl ?_) ?_)), ⟨.inl (by kernel_rfl), trivial⟩⟩ ?_))
         clear hK15
         refine aq_done (by kernel_rfl) ?_
         refine (to_k0 (fun _ _ h => h) (hK12 _ _ _ _ _ ?_))
         clear hK12
         refine wp_seq' fun K16 hK16 => ?_
         refine wp_rega [(999, [(4, _), (6, _), (7, _), (8, _)]), (9, [(2, _)])] (by kernel_rfl) ⟨.inr (subH_same rfl (subH_same rfl (subH_same rfl (subH_same rfl subH_nil)))), ⟨.inr (subH_same rfl subH_nil), trivial⟩⟩ ?_
         refine aq_r 0 999 rfl (by kernel_rfl) (by kernel_rfl) (by kernel_rfl) (.head _) (by kernel_rfl) (by kernel_rfl) rfl (r_fa (o' := 3) rfl fl57_3 rfl) ?_
         refine aq_r 1 9 rfl (by kernel_rfl) (by kernel_rfl) (by kernel_rfl) (.tail _ (.head _)) (by kernel_rfl) (by kernel_rfl) rfl (r_ld (id := 2) rfl rfl rfl sc53) ?_
         refine aq_r 3 999 rfl (by kernel_rfl) (by kernel_rfl) (by kernel_rfl) (.head _) (by kernel_rfl) (by kernel_rfl) rfl (r_move rfl) ?_
         refine aq_r 4 999 rfl (by kernel_rfl) (by kernel_rfl) (by kernel_rfl) (.head _) (by kernel_rfl) (by kernel_rfl) rfl (r_add rfl rfl (by omega)) ?_
         refine aq_r 5 999 rfl (by kernel_rfl) (by kernel_rfl) (by kernel_rfl) (.head _) (by kernel_rfl) (by kernel_rfl) rfl (r_lda (id := 8) (n := 7) rfl rfl rfl ag70) ?_
         refine aq_two (i := 2) (j := 6) (by kernel_rfl) rfl rfl (fun K17 hK17 => ?_) (fun K17 hK17 => ?_)
         ·refine ol_call rfl rfl cb40 rfl (fun w1 hb1 hs1 hB1 => Calls.mono (clone_smp _ _ _ A.ss _ (hA.s.at hb1 hB1) (by omega)) ?_)
          rintro e w2 ⟨a87, n87, c87, rfl, hf87⟩
          refine After.fresh (id := 87) rfl hb1 hs1 hB1 hf87 ?_
          have hl87 := hf87.len; clear hf87 hB1 hs1 hb1 w2 w1
          refine ol_nil (to_k0 (fun _ _ h => h) (hK17 _ _ ⟨.inr (by repeat' first | exact subH_nil | refine subH_same rfl ?_ | (refine subH_blk rfl (by repeat' first | exact sub_nil | refine sub_cons rfl ?_) ?_)), ⟨.inr (by repeat' first | exact subH_nil | refine subH_same rfl ?_ | (refine subH_blk rfl (by repeat' first | exact sub_nil | refine sub_cons rfl ?_) ?_)), trivial⟩⟩ ?_))
          clear hK17
          refine aq_one (i := 6) (by kernel_rfl) rfl fun K18 hK18 => ?_
          refine ol_bs1 91 rfl rfl rw53 rfl rfl rfl fun a91 => ?_
          refine ol_nil (to_k0 (fun _ _ h => h) (hK18 _ _ ⟨.inr (by repeat' first | exact subH_nil | refine subH_same rfl ?_ | (refine subH_blk rfl (by repeat' first | exact sub_nil | refine sub_cons rfl ?_) ?_)), ⟨.inr (by repeat' first | exact subH_nil | refine subH_same rfl ?_ | (refine subH_blk rfl (by repeat' first | exact sub_nil | refine sub_cons rfl ?_) ?_)), trivial⟩⟩ ?_))
          clear hK18
          refine aq_one (i := 7) (by kernel_rfl) rfl fun K19 hK19 => ?_
          refine ol_call rfl rfl cb39 rfl (fun w1 hb1 hs1 hB1 => ?_)
          refine Calls.mono (insert_smp _ _ _ _ A.ss (k + 1) ⟨(p.at_ + q.at_) / 2, (p.x + q.x).tdiv 2, (p.y + q.y).tdiv 2, p.z, p.pulse, p.power, p.steps⟩ _ _ _ _ hB1 (hs1.keys [(87, 1), (91, 3), (2, 2), (4, 4), (6, 6), (7, 7), (8, 8)] (keyed_cons rfl (keyed_cons rfl (keyed_cons rfl (keyed_cons rfl (keyed_cons rfl (keyed_cons rfl (keyed_cons rfl keyed_nil))))))) (by decide)) (by omega) (by omega)) ?_
          rintro e w2 ⟨a92, c92, rfl, hbw, hs2, hB2, hkd2⟩
          refine After.sat rfl hb1 hbw hs2 hB2 (hkd2.imp (fun _ h => h.elim)) ?_
          clear hkd2 hB2 hs2 hbw hB1 hs1 hb1 w2 w1
          refine ol_nil (to_k0 (fun _ _ h => h) (hK19 _ _ ⟨.inr (by repeat' first | exact subH_nil | refine subH_same rfl ?_ | (refine subH_blk rfl (by repeat' first | exact sub_nil | refine sub_cons rfl ?_) ?_)), ⟨.inr (by repeat' first | exact subH_nil | refine subH_same rfl ?_ | (refine subH_blk rfl (by repeat' first | exact sub_nil | refine sub_cons rfl ?_) ?_)), trivial⟩⟩ ?_))
          clear hK19
          refine aq_r 8 999 rfl (by kernel_rfl) (by kernel_rfl) (by kernel_rfl) (.head _) (by kernel_rfl) (by kernel_rfl) rfl (r_fa (o' := 3) rfl fl57_3 rfl) ?_
          refine aq_one (i := 9) (by kernel_rfl) rfl fun K20 hK20 => ?_
          refine ol_store (id := 2) rfl rfl rfl rfl sz53 rfl rfl (by first | decide | exact Nat.zero_lt_succ _ | simp) ?_
          refine ol_nil (to_k0 (fun _ _ h => h) (hK20 _ _ ⟨.inr (by repeat' first | exact subH_nil | refine subH_same rfl ?_ | (refine subH_blk rfl (by repeat' first | exact sub_nil | refine sub_cons rfl ?_) ?_)), ⟨.inl (by kernel_rfl), trivial⟩⟩ ?_))
          clear hK20
          refine aq_done (by kernel_rfl) ?_
          refine (to_k0 (fun _ _ h => h) (hK16 _ _ _ _ _ ?_))
          clear hK16
          refine wp_seq' fun K21 hK21 => ?_
          refine wp_reg ?_
          refine ol_r (r_lda (id := 2) (n := 6) rfl rfl rfl ag57) rfl ?_
          refine ol_store (id := 4) rfl rfl rfl rfl sz57 rfl rfl (by first | decide | exact Nat.zero_lt_succ _ | simp) ?_
          refine ol_r (r_assign rfl) rfl ?_
          refine ol_nil (to_k0 (fun _ _ h => h) (hK21 _ _ _ _ _ ?_))
          clear hK21
          refine hQ.ret (rvs2 (rv_c (id := 4) (n := 6) rfl rfl ag57 rfl) (rv_t rfl)) (fun _ _ h => h) fun w hb hs hB hkd => ?_
          have hn87 : n87 = A.sn := by omega
          subst hn87
          refine ⟨a92, c92, rfl, hb, ?_⟩
          have h := hs.ok 1 _ rfl
          have hm : midR p q = ⟨(p.at_ + q.at_) / 2, (p.x + q.x).tdiv 2, (p.y + q.y).tdiv 2, p.z, p.pulse, p.power, p.steps⟩ := by unfold midR; rw [Int.tdiv_eq_ediv_of_nonneg (by omega)]
          rw [hm]
          exact h
         ·refine ol_bs1 91 rfl rfl rw53 rfl rfl rfl fun a91 => ?_
          refine ol_nil (to_k0 (fun _ _ h => h) (hK17 _ _ ⟨.inr (by repeat' first | exact subH_nil | refine subH_same rfl ?_ | (refine subH_blk rfl (by repeat' first | exact sub_nil | refine sub_cons rfl ?_) ?_)), ⟨.inr (by repeat' first | exact subH_nil | refine subH_same rfl ?_ | (refine subH_blk rfl (by repeat' first | exact sub_nil | refine sub_cons rfl ?_) ?_)), trivial⟩⟩ ?_))
          clear hK17
          refine aq_one (i := 2) (by kernel_rfl) rfl fun K18 hK18 => ?_
          refine ol_call rfl rfl cb40 rfl (fun w1 hb1 hs1 hB1 => Calls.mono (clone_smp _ _ _ A.ss _ (hA.s.at hb1 hB1) (by omega)) ?_)
          rintro e w2 ⟨a87, n87, c87, rfl, hf87⟩
          refine After.fresh (id := 87) rfl hb1 hs1 hB1 hf87 ?_
          have hl87 := hf87.len; clear hf87 hB1 hs1 hb1 w2 w1
          refine ol_nil (to_k0 (fun _ _ h => h) (hK18 _ _ ⟨.inr (by repeat' first | exact subH_nil | refine subH_same rfl ?_ | (refine subH_blk rfl (by repeat' first | exact sub_nil | refine sub_cons rfl ?_) ?_)), ⟨.inr (by repeat' first | exact subH_nil | refine subH_same rfl ?_ | (refine subH_blk rfl (by repeat' first | exact sub_nil | refine sub_cons rfl ?_) ?_)), trivial⟩⟩ ?_))
          clear hK18
          refine aq_one (i := 7) (by kernel_rfl) rfl fun K19 hK19 => ?_
          refine ol_call rfl rfl cb39 rfl (fun w1 hb1 hs1 hB1 => ?_)
          refine Calls.mono (insert_smp _ _ _ _ A.ss (k + 1) ⟨(p.at_ + q.at_) / 2, (p.x + q.x).tdiv 2, (p.y + q.y).tdiv 2, p.z, p.pulse, p.power, p.steps⟩ _ _ _ _ hB1 (hs1.keys [(87, 1), (91, 3), (2, 2), (4, 4), (6, 6), (7, 7), (8, 8)] (keyed_cons rfl (keyed_cons rfl (keyed_cons rfl (keyed_cons rfl (keyed_cons rfl (keyed_cons rfl (keyed_cons rfl keyed_nil))))))) (by decide)) (by omega) (by omega)) ?_
          rintro e w2 ⟨a92, c92, rfl, hbw, hs2, hB2, hkd2⟩
          refine After.sat rfl hb1 hbw hs2 hB2 (hkd2.imp (fun _ h => h.elim)) ?_
          clear hkd2 hB2 hs2 hbw hB1 hs1 hb1 w2 w1
          refine ol_nil (to_k0 (fun _ _ h => h) (hK19 _ _ ⟨.inr (by repeat' first | exact subH_nil | refine subH_same rfl ?_ | (refine subH_blk rfl (by repeat' first | exact sub_nil | refine sub_cons rfl ?_) ?_)), ⟨.inr (by repeat' first | exact subH_nil | refine subH_same rfl ?_ | (refine subH_blk rfl (by repeat' first | exact sub_nil | refine sub_cons rfl ?_) ?_)), trivial⟩⟩ ?_))
          clear hK19
          refine aq_r 8 999 rfl (by kernel_rfl) (by kernel_rfl) (by kernel_rfl) (.head _) (by kernel_rfl) (by kernel_rfl) rfl (r_fa (o' := 3) rfl fl57_3 rfl) ?_
          refine aq_one (i := 9) (by kernel_rfl) rfl fun K20 hK20 => ?_
          refine ol_store (id := 2) rfl rfl rfl rfl sz53 rfl rfl (by first | decide | exact Nat.zero_lt_succ _ | simp) ?_
          refine ol_nil (to_k0 (fun _ _ h => h) (hK20 _ _ ⟨.inr (by repeat' first | exact subH_nil | refine subH_same rfl ?_ | (refine subH_blk rfl (by repeat' first | exact sub_nil | refine sub_cons rfl ?_) ?_)), ⟨.inl (by kernel_rfl), trivial⟩⟩ ?_))
          clear hK20
          refine aq_done (by kernel_rfl) ?_
          refine (to_k0 (fun _ _ h => h) (hK16 _ _ _ _ _ ?_))
          clear hK16
          refine wp_seq' fun K21 hK21 => ?_
          refine wp_reg ?_
          refine ol_r (r_lda (id := 2) (n := 6) rfl rfl rfl ag57) rfl ?_
          refine ol_store (id := 4) rfl rfl rfl rfl sz57 rfl rfl (by first | decide | exact Nat.zero_lt_succ _ | simp) ?_
          refine ol_r (r_assign rfl) rfl ?_
          refine ol_nil (to_k0 (fun _ _ h => h) (hK21 _ _ _ _ _ ?_))
          clear hK21
          refine hQ.ret (rvs2 (rv_c (id := 4) (n := 6) rfl rfl ag57 rfl) (rv_t rfl)) (fun _ _ h => h) fun w hb hs hB hkd => ?_
          have hn87 : n87 = A.sn := by omega
          subst hn87
          refine ⟨a92, c92, rfl, hb, ?_⟩
          have h := hs.ok 1 _ rfl
          have hm : midR p q = ⟨(p.at_ + q.at_) / 2, (p.x + q.x).tdiv 2, (p.y + q.y).tdiv 2, p.z, p.pulse, p.power, p.steps⟩ := by unfold midR; rw [Int.tdiv_eq_ediv_of_nonneg (by omega)]
          rw [hm]
          exact h
theorem hMidst_no (A : ActV) (k : Int) (w : World) (hA : A.Ok w.heap.size w) (hbd : ∀ x ∈ A.ss, SmpB x)
    (hno : ∀ p q, 0 ≤ k → A.ss[k.toNat]? = some p → A.ss[k.toNat + 1]? = some q → A.ss.length < 20000 → ¬((p.at_ + q.at_) % 2 = 0 ∧ (p.x + q.x).tmod 2 = 0 ∧ (p.y + q.y).tmod 2 = 0)) :
    Calls Try.prog 15 #[.agg #[.string A.name, .int .i64 A.sport, .int .i64 A.start, .slice A.sa A.sn A.sc, .slice A.la A.ln A.lc, .slice A.ta A.tn A.tc], .int .i64 k] w fun e w' => e = .returned (.tuple #[.agg #[.string A.name, .int .i64 A.sport, .int .i64 A.start, .slice A.sa A.sn A.sc, .slice A.la A.ln A.lc, .slice A.ta A.tn A.tc], .bool false]) ∧ Below w.heap.size w w' := by
  have hsn := hA.s.len
  have hfit := hA.s.fit
  refine enterQ (N := 95) (C := fun _ => True) (H := []) (B := w.heap.size) (args := [_, _]) Try.func15 rfl rfl rfl (Nat.le_refl _) (Sat.nil _ _) fun Q hQ => ?_
  refine wp_seq' fun K1 hK1 => ?_
  refine wp_reg ?_
  refine ol_box 2 rfl rfl rfl fun b2 => ?_
  refine ol_alloc 4 z57 rfl fun b4 => ?_
  refine ol_r (r_assign rfl) rfl ?_
  refine ol_nil (to_k0 (fun _ _ h => h) (hK1 _ _ _ _ _ ?_))
  clear hK1
  refine wp_seq' fun K2 hK2 => ?_
  refine wp_seq' fun K3 hK3 => ?_
  refine wp_reg ?_
  refine ol_r (r_move rfl) rfl ?_
  refine ol_r (r_lss rfl rfl) rfl ?_
  refine ol_r (r_move rfl) rfl ?_
  refine ol_split (d := 11) rfl (fun hs11 => ?_) (fun hs11 => ?_)
  ·have phs11 := hs11; try simp only [decide_eq_true_eq, decide_eq_false_iff_not, Bool.not_eq_true', Bool.not_eq_false', Bool.not_true, Bool.not_false] at phs11
   refine ol_s rfl rfl hs11 rfl ?_
   refine ol_s rfl rfl hs11 rfl ?_
   refine ol_s rfl rfl hs11 rfl ?_
   refine ol_s rfl rfl hs11 rfl ?_
   refine ol_s rfl rfl hs11 rfl ?_
   refine ol_s rfl rfl hs11 rfl ?_
   refine ol_r (r_pickT rfl hs11 rfl) rfl ?_
   refine ol_r (r_move rfl) rfl ?_
   refine ol_s rfl rfl rfl rfl ?_
   refine ol_s rfl rfl rfl rfl ?_
   refine ol_s rfl rfl rfl rfl ?_
   refine ol_s rfl rfl rfl rfl ?_
   refine ol_r (r_pickT rfl rfl rfl) rfl ?_
   refine ol_nil (to_k0 (fun _ _ h => h) (hK3 _ _ _ _ _ ?_))
   clear hK3
   refine wp_condT rfl ?_
   refine wp_seq' fun K4 hK4 => ?_
   refine wp_reg ?_
   refine ol_r (r_lda (id := 2) (n := 6) rfl rfl rfl ag57) rfl ?_
   refine ol_store (id := 4) rfl rfl rfl rfl sz57 rfl rfl (by first | decide | exact Nat.zero_lt_succ _ | simp) ?_
   refine ol_r (r_assign rfl) rfl ?_
   refine ol_nil (to_k0 (fun _ _ h => h) (hK4 _ _ _ _ _ ?_))
   clear hK4
   refine hQ.ret (rvs2 (rv_c (id := 4) (n := 6) rfl rfl ag57 rfl) (rv_t rfl)) (fun _ _ h => h) fun w hb hs hB hkd => ?_
   exact ⟨rfl, hb⟩
  ·have phs11 := hs11; try simp only [decide_eq_true_eq, decide_eq_false_iff_not, Bool.not_eq_true', Bool.not_eq_false', Bool.not_true, Bool.not_false] at phs11
   refine ol_g rfl rfl hs11 ?_
   refine ol_r (r_move rfl) rfl ?_
   refine ol_g rfl rfl hs11 ?_
   refine ol_r (r_fa (o' := 3) rfl fl57_3 rfl) rfl ?_
   refine ol_g rfl rfl hs11 ?_
   refine ol_r (r_ld (id := 2) rfl rfl rfl sc53) rfl ?_
   refine ol_g rfl rfl hs11 ?_
   refine ol_r (r_len rfl sl53) rfl ?_
   refine ol_g rfl rfl hs11 ?_
   refine ol_r (r_sub rfl rfl (by omega)) rfl ?_
   refine ol_g rfl rfl hs11 ?_
   refine ol_r (r_geq rfl rfl) rfl ?_
   refine ol_r (r_pickF rfl hs11 rfl) rfl ?_
   refine ol_r (r_move rfl) rfl ?_
   refine ol_split (d := 19) rfl (fun hs19 => ?_) (fun hs19 => ?_)
   ·have phs19 := hs19; try simp only [decide_eq_true_eq, decide_eq_false_iff_not, Bool.not_eq_true', Bool.not_eq_false', Bool.not_true, Bool.not_false] at phs19
    refine ol_s rfl rfl hs19 rfl ?_
    refine ol_s rfl rfl hs19 rfl ?_
    refine ol_s rfl rfl hs19 rfl ?_
    refine ol_s rfl rfl hs19 rfl ?_
    refine ol_r (r_pickT rfl hs19 rfl) rfl ?_
    refine ol_nil (to_k0 (fun _ _ h => h) (hK3 _ _ _ _ _ ?_))
    clear hK3
    refine wp_condT rfl ?_
    refine wp_seq' fun K5 hK5 => ?_
    refine wp_reg ?_
    refine ol_r (r_lda (id := 2) (n := 6) rfl rfl rfl ag57) rfl ?_
    refine ol_store (id := 4) rfl rfl rfl rfl sz57 rfl rfl (by first | decide | exact Nat.zero_lt_succ _ | simp) ?_
    refine ol_r (r_assign rfl) rfl ?_
    refine ol_nil (to_k0 (fun _ _ h => h) (hK5 _ _ _ _ _ ?_))
    clear hK5
    refine hQ.ret (rvs2 (rv_c (id := 4) (n := 6) rfl rfl ag57 rfl) (rv_t rfl)) (fun _ _ h => h) fun w hb hs hB hkd => ?_
    exact ⟨rfl, hb⟩
   ·have phs19 := hs19; try simp only [decide_eq_true_eq, decide_eq_false_iff_not, Bool.not_eq_true', Bool.not_eq_false', Bool.not_true, Bool.not_false] at phs19
    refine ol_g rfl rfl hs19 ?_
    refine ol_r (r_fa (o' := 3) rfl fl57_3 rfl) rfl ?_
    refine ol_g rfl rfl hs19 ?_
    refine ol_r (r_ld (id := 2) rfl rfl rfl sc53) rfl ?_
    refine ol_g rfl rfl hs19 ?_
    refine ol_r (r_len rfl sl53) rfl ?_
    refine ol_g rfl rfl hs19 ?_
    refine ol_r (r_geq rfl rfl) rfl ?_
    refine ol_r (r_pickF rfl hs19 rfl) rfl ?_
    refine ol_nil (to_k0 (fun _ _ h => h) (hK3 _ _ _ _ _ ?_))
    clear hK3
    first | refine wp_condD rfl (fun hc24 => ?_) (fun hc24 => ?_) | refine wp_condN rfl (fun hc24 => ?_) (fun hc24 => ?_) | refine wp_condNB rfl (fun hc24 => ?_) (fun hc24 => ?_) | refine wp_cond' rfl (fun hc24 => ?_) (fun hc24 => ?_)
    ·refine wp_seq' fun K6 hK6 => ?_
     refine wp_reg ?_
     refine ol_r (r_lda (id := 2) (n := 6) rfl rfl rfl ag57) rfl ?_
     refine ol_store (id := 4) rfl rfl rfl rfl sz57 rfl rfl (by first | decide | exact Nat.zero_lt_succ _ | simp) ?_
     refine ol_r (r_assign rfl) rfl ?_
     refine ol_nil (to_k0 (fun _ _ h => h) (hK6 _ _ _ _ _ ?_))
     clear hK6
     refine hQ.ret (rvs2 (rv_c (id := 4) (n := 6) rfl rfl ag57 rfl) (rv_t rfl)) (fun _ _ h => h) fun w hb hs hB hkd => ?_
     exact ⟨rfl, hb⟩
    ·refine wp_skip' (to_k0 (fun _ _ h => h) (hK2 _ _ _ _ _ ?_))
     clear hK2
     apply wp_seq_cutM (σ := Nat × Nat × SmpR × SmpR) (fun s => A.ss[k.toNat]? = some s.2.2.1 ∧ A.ss[(k + 1).toNat]? = some s.2.2.2) (fun s => [(6, .pointer (some ⟨s.1, 0, none⟩)), (7, .pointer (some ⟨s.2.1, 0, none⟩))]) [(1, _), (2, _), (4, _), (5, _)] (fun s => [(6, .blk s.1 (pairs 0 [.int .i64 s.2.2.1.at_, .int .i64 s.2.2.1.x, .int .i64 s.2.2.1.y, .int .i64 s.2.2.1.z, .int .i64 s.2.2.1.pulse, .int .i64 s.2.2.1.power, .int .i64 s.2.2.1.steps]) 70), (7, .blk s.2.1 (pairs 0 [.int .i64 s.2.2.2.at_, .int .i64 s.2.2.2.x, .int .i64 s.2.2.2.y, .int .i64 s.2.2.2.z, .int .i64 s.2.2.2.pulse, .int .i64 s.2.2.2.power, .int .i64 s.2.2.2.steps]) 70)]) [(2, _), (4, _)]
     ·exact (sub_cons rfl (sub_cons rfl (sub_cons rfl (sub_cons rfl sub_nil))))
     ·exact (subH_same rfl (subH_same rfl subH_nil))
     ·intro K7 hK7
      refine wp_rega [(999, [(2, _), (4, _)])] (by kernel_rfl) ⟨.inr (subH_same rfl (subH_same rfl subH_nil)), trivial⟩ ?_
      refine aq_r 0 999 rfl (by kernel_rfl) (by kernel_rfl) (by kernel_rfl) (.head _) (by kernel_rfl) (by kernel_rfl) rfl (r_fa (o' := 3) rfl fl57_3 rfl) ?_
      refine aq_r 1 999 rfl (by kernel_rfl) (by kernel_rfl) (by kernel_rfl) (.head _) (by kernel_rfl) (by kernel_rfl) rfl (r_ld (id := 2) rfl rfl rfl sc53) ?_
      refine aq_r 2 999 rfl (by kernel_rfl) (by kernel_rfl) (by kernel_rfl) (.head _) (by kernel_rfl) (by kernel_rfl) rfl (r_move rfl) ?_
      refine aq_ixr 3 999 rfl (by kernel_rfl) (by kernel_rfl) (by kernel_rfl) (.head _) (by kernel_rfl) (by kernel_rfl) rfl hA.s rfl rfl sl53 (by omega) fun x29 hx29 => ?_
      try simp only [Int.toNat_natCast] at hx29
      refine aq_r 4 999 rfl (by kernel_rfl) (by kernel_rfl) (by kernel_rfl) (.head _) (by kernel_rfl) (by kernel_rfl) rfl (r_ldw rfl (fun w1 hb1 hs1 hB1 => Rd.loads hA.s ty70 hx29 hb1)) ?_
      refine aq_r 5 999 rfl (by kernel_rfl) (by kernel_rfl) (by kernel_rfl) (.head _) (by kernel_rfl) (by kernel_rfl) rfl (r_fa (o' := 3) rfl fl57_3 rfl) ?_
      refine aq_r 6 999 rfl (by kernel_rfl) (by kernel_rfl) (by kernel_rfl) (.head _) (by kernel_rfl) (by kernel_rfl) rfl (r_ld (id := 2) rfl rfl rfl sc53) ?_
      refine aq_r 7 999 rfl (by kernel_rfl) (by kernel_rfl) (by kernel_rfl) (.head _) (by kernel_rfl) (by kernel_rfl) rfl (r_move rfl) ?_
      refine aq_r 8 999 rfl (by kernel_rfl) (by kernel_rfl) (by kernel_rfl) (.head _) (by kernel_rfl) (by kernel_rfl) rfl (r_add rfl rfl (by omega)) ?_
      refine aq_ixr 9 999 rfl (by kernel_rfl) (by kernel_rfl) (by kernel_rfl) (.head _) (by kernel_rfl) (by kernel_rfl) rfl hA.s rfl rfl sl53 (by omega) fun x35 hx35 => ?_
      try simp only [Int.toNat_natCast] at hx35
      refine aq_r 10 999 rfl (by kernel_rfl) (by kernel_rfl) (by kernel_rfl) (.head _) (by kernel_rfl) (by kernel_rfl) rfl (r_ldw rfl (fun w1 hb1 hs1 hB1 => Rd.loads hA.s ty70 hx35 hb1)) ?_
      refine aq_two (i := 11) (j := 12) (by kernel_rfl) rfl rfl (fun K8 hK8 => ?_) (fun K8 hK8 => ?_)
      ·refine ol_alloc 6 z70 rfl fun b6 => ?_
       refine ol_nil (to_k0 (fun _ _ h => h) (hK8 _ _ ⟨.inr (by repeat' first | exact subH_nil | refine subH_same rfl ?_ | (refine subH_blk rfl (by repeat' first | exact sub_nil | refine sub_cons rfl ?_) ?_)), trivial⟩ ?_))
       clear hK8
       refine aq_one (i := 12) (by kernel_rfl) rfl fun K9 hK9 => ?_
       refine ol_alloc 7 z70 rfl fun b7 => ?_
       refine ol_nil (to_k0 (fun _ _ h => h) (hK9 _ _ ⟨.inr (by repeat' first | exact subH_nil | refine subH_same rfl ?_ | (refine subH_blk rfl (by repeat' first | exact sub_nil | refine sub_cons rfl ?_) ?_)), trivial⟩ ?_))
       clear hK9
       refine aq_one (i := 13) (by kernel_rfl) rfl fun K10 hK10 => ?_
       refine ol_store (id := 6) rfl rfl rfl rfl sz70 rfl rfl (by first | decide | exact Nat.zero_lt_succ _ | simp) ?_
       refine ol_nil (to_k0 (fun _ _ h => h) (hK10 _ _ ⟨.inr (by repeat' first | exact subH_nil | refine subH_same rfl ?_ | (refine subH_blk rfl (by repeat' first | exact sub_nil | refine sub_cons rfl ?_) ?_)), trivial⟩ ?_))
       clear hK10
       refine aq_one (i := 14) (by kernel_rfl) rfl fun K11 hK11 => ?_
       refine ol_store (id := 7) rfl rfl rfl rfl sz70 rfl rfl (by first | decide | exact Nat.zero_lt_succ _ | simp) ?_
       refine ol_nil (to_k0 (fun _ _ h => h) (hK11 _ _ ⟨.inr (by repeat' first | exact subH_nil | refine subH_same rfl ?_ | (refine subH_blk rfl (by repeat' first | exact sub_nil | refine sub_cons rfl ?_) ?_)), trivial⟩ ?_))
       clear hK11
       refine aq_done (by kernel_rfl) ?_
       refine (to_k0 (fun _ _ h => h) (hK7 ((b6, b7, x29, x35)) _ _ ?_ (sub_cons rfl (sub_cons rfl sub_nil)) (sub_cons rfl (sub_cons rfl (sub_cons rfl (sub_cons rfl sub_nil)))) (subH_blk rfl (by repeat' first | exact sub_nil | refine sub_cons rfl ?_) (subH_blk rfl (by repeat' first | exact sub_nil | refine sub_cons rfl ?_) subH_nil)) (subH_same rfl (subH_same rfl subH_nil))))
       try dsimp only
       exact ⟨hx29, hx35⟩
      ·refine ol_alloc 7 z70 rfl fun b7 => ?_
       refine ol_nil (to_k0 (fun _ _ h => h) (hK8 _ _ ⟨.inr (by repeat' first | exact subH_nil | refine subH_same rfl ?_ | (refine subH_blk rfl (by repeat' first | exact sub_nil | refine sub_cons rfl ?_) ?_)), trivial⟩ ?_))
       clear hK8
       refine aq_one (i := 11) (by kernel_rfl) rfl fun K9 hK9 => ?_
       refine ol_alloc 6 z70 rfl fun b6 => ?_
       refine ol_nil (to_k0 (fun _ _ h => h) (hK9 _ _ ⟨.inr (by repeat' first | exact subH_nil | refine subH_same rfl ?_ | (refine subH_blk rfl (by repeat' first | exact sub_nil | refine sub_cons rfl ?_) ?_)), trivial⟩ ?_))
       clear hK9
       refine aq_one (i := 13) (by kernel_rfl) rfl fun K10 hK10 => ?_
       refine ol_store (id := 6) rfl rfl rfl rfl sz70 rfl rfl (by first | decide | exact Nat.zero_lt_succ _ | simp) ?_
       refine ol_nil (to_k0 (fun _ _ h => h) (hK10 _ _ ⟨.inr (by repeat' first | exact subH_nil | refine subH_same rfl ?_ | (refine subH_blk rfl (by repeat' first | exact sub_nil | refine sub_cons rfl ?_) ?_)), trivial⟩ ?_))
       clear hK10
       refine aq_one (i := 14) (by kernel_rfl) rfl fun K11 hK11 => ?_
       refine ol_store (id := 7) rfl rfl rfl rfl sz70 rfl rfl (by first | decide | exact Nat.zero_lt_succ _ | simp) ?_
       refine ol_nil (to_k0 (fun _ _ h => h) (hK11 _ _ ⟨.inr (by repeat' first | exact subH_nil | refine subH_same rfl ?_ | (refine subH_blk rfl (by repeat' first | exact sub_nil | refine sub_cons rfl ?_) ?_)), trivial⟩ ?_))
       clear hK11
       refine aq_done (by kernel_rfl) ?_
       refine (to_k0 (fun _ _ h => h) (hK7 ((b6, b7, x29, x35)) _ _ ?_ (sub_cons rfl (sub_cons rfl sub_nil)) (sub_cons rfl (sub_cons rfl (sub_cons rfl (sub_cons rfl sub_nil)))) (subH_blk rfl (by repeat' first | exact sub_nil | refine sub_cons rfl ?_) (subH_blk rfl (by repeat' first | exact sub_nil | refine sub_cons rfl ?_) subH_nil)) (subH_same rfl (subH_same rfl subH_nil))))
       try dsimp only
       exact ⟨hx29, hx35⟩
     ·rintro ⟨b6, b7, p, q⟩ ⟨hp, hq⟩
      dsimp only at hp hq ⊢
      obtain ⟨bp1, bp2, bp3⟩ := hbd p (List.mem_of_getElem? hp)
      obtain ⟨bq1, bq2, bq3⟩ := hbd q (List.mem_of_getElem? hq)
      refine wp_seq' fun K12 hK12 => ?_
      refine wp_seq' fun K13 hK13 => ?_
      refine wp_reg ?_
      refine ol_r (r_fa (o' := 0) rfl fl70_0 rfl) rfl ?_
      refine ol_r (r_ld (id := 6) rfl rfl rfl sc3) rfl ?_
      refine ol_r (r_fa (o' := 0) rfl fl70_0 rfl) rfl ?_
      refine ol_r (r_ld (id := 7) rfl rfl rfl sc3) rfl ?_
      refine ol_r (r_add rfl rfl (by omega)) rfl ?_
      first | refine ol_r (r_rem rfl rfl (by omega)) rfl ?_ | refine ol_r (r_trem rfl rfl (by omega)) rfl ?_
      refine ol_r (r_neq rfl rfl) rfl ?_
      refine ol_r (r_move rfl) rfl ?_
      refine ol_split (d := 44) rfl (fun hs44 => ?_) (fun hs44 => ?_)
      ·have phs44 := hs44; try simp only [decide_eq_true_eq, decide_eq_false_iff_not, Bool.not_eq_true', Bool.not_eq_false', Bool.not_true, Bool.not_false] at phs44
       refine ol_s rfl rfl hs44 rfl ?_
       refine ol_s rfl rfl hs44 rfl ?_
       refine ol_s rfl rfl hs44 rfl ?_
       refine ol_s rfl rfl hs44 rfl ?_
       refine ol_s rfl rfl hs44 rfl ?_
       refine ol_s rfl rfl hs44 rfl ?_
       refine ol_s rfl rfl hs44 rfl ?_
       refine ol_r (r_pickT rfl hs44 rfl) rfl ?_
       refine ol_r (r_move rfl) rfl ?_
       refine ol_s rfl rfl rfl rfl ?_
       refine ol_s rfl rfl rfl rfl ?_
       refine ol_s rfl rfl rfl rfl ?_
       refine ol_s rfl rfl rfl rfl ?_
       refine ol_s rfl rfl rfl rfl ?_
       refine ol_s rfl rfl rfl rfl ?_
       refine ol_s rfl rfl rfl rfl ?_
       refine ol_r (r_pickT rfl rfl rfl) rfl ?_
       refine ol_nil (to_k0 (fun _ _ h => h) (hK13 _ _ _ _ _ ?_))
       clear hK13
       refine wp_condT rfl ?_
       refine wp_seq' fun K14 hK14 => ?_
       refine wp_reg ?_
       refine ol_r (r_lda (id := 2) (n := 6) rfl rfl rfl ag57) rfl ?_
       refine ol_store (id := 4) rfl rfl rfl rfl sz57 rfl rfl (by first | decide | exact Nat.zero_lt_succ _ | simp) ?_
       refine ol_r (r_assign rfl) rfl ?_
       refine ol_nil (to_k0 (fun _ _ h => h) (hK14 _ _ _ _ _ ?_))
       clear hK14
       refine hQ.ret (rvs2 (rv_c (id := 4) (n := 6) rfl rfl ag57 rfl) (rv_t rfl)) (fun _ _ h => h) fun w hb hs hB hkd => ?_
       exact ⟨rfl, hb⟩
      ·have phs44 := hs44; try simp only [decide_eq_true_eq, decide_eq_false_iff_not, Bool.not_eq_true', Bool.not_eq_false', Bool.not_true, Bool.not_false] at phs44
       refine ol_g rfl rfl hs44 ?_
       refine ol_r (r_fa (o' := 1) rfl fl70_1 rfl) rfl ?_
       refine ol_g rfl rfl hs44 ?_
       refine ol_r (r_ld (id := 6) rfl rfl rfl sc3) rfl ?_
       refine ol_g rfl rfl hs44 ?_
       refine ol_r (r_fa (o' := 1) rfl fl70_1 rfl) rfl ?_
       refine ol_g rfl rfl hs44 ?_
       refine ol_r (r_ld (id := 7) rfl rfl rfl sc3) rfl ?_
       refine ol_g rfl rfl hs44 ?_
       refine ol_r (r_add rfl rfl (by omega)) rfl ?_
       refine ol_g rfl rfl hs44 ?_
       first | refine ol_r (r_rem rfl rfl (by omega)) rfl ?_ | refine ol_r (r_trem rfl rfl (by omega)) rfl ?_
       refine ol_g rfl rfl hs44 ?_
       refine ol_r (r_neq rfl rfl) rfl ?_
       refine ol_r (r_pickF rfl hs44 rfl) rfl ?_
       refine ol_r (r_move rfl) rfl ?_
       refine ol_split (d := 53) rfl (fun hs53 => ?_) (fun hs53 => ?_)
       ·have phs53 := hs53; try simp only [decide_eq_true_eq, decide_eq_false_iff_not, Bool.not_eq_true', Bool.not_eq_false', Bool.not_true, Bool.not_false] at phs53
        refine ol_s rfl rfl hs53 rfl ?_
        refine ol_s rfl rfl hs53 rfl ?_
        refine ol_s rfl rfl hs53 rfl ?_
        refine ol_s rfl rfl hs53 rfl ?_
        refine ol_s rfl rfl hs53 rfl ?_
        refine ol_s rfl rfl hs53 rfl ?_
        refine ol_s rfl rfl hs53 rfl ?_
        refine ol_r (r_pickT rfl hs53 rfl) rfl ?_
        refine ol_nil (to_k0 (fun _ _ h => h) (hK13 _ _ _ _ _ ?_))
        clear hK13
        refine wp_condT rfl ?_
        refine wp_seq' fun K15 hK15 => ?_
        refine wp_reg ?_
        refine ol_r (r_lda (id := 2) (n := 6) rfl rfl rfl ag57) rfl ?_
        refine ol_store (id := 4) rfl rfl rfl rfl sz57 rfl rfl (by first | decide | exact Nat.zero_lt_succ _ | simp) ?_
        refine ol_r (r_assign rfl) rfl ?_
        refine ol_nil (to_k0 (fun _ _ h => h) (hK15 _ _ _ _ _ ?_))
        clear hK15
        refine hQ.ret (rvs2 (rv_c (id := 4) (n := 6) rfl rfl ag57 rfl) (rv_t rfl)) (fun _ _ h => h) fun w hb hs hB hkd => ?_
        exact ⟨rfl, hb⟩
       ·have phs53 := hs53; try simp only [decide_eq_true_eq, decide_eq_false_iff_not, Bool.not_eq_true', Bool.not_eq_false', Bool.not_true, Bool.not_false] at phs53
        refine ol_g rfl rfl hs53 ?_
        refine ol_r (r_fa (o' := 2) rfl fl70_2 rfl) rfl ?_
        refine ol_g rfl rfl hs53 ?_
        refine ol_r (r_ld (id := 6) rfl rfl rfl sc3) rfl ?_
        refine ol_g rfl rfl hs53 ?_
        refine ol_r (r_fa (o' := 2) rfl fl70_2 rfl) rfl ?_
        refine ol_g rfl rfl hs53 ?_
        refine ol_r (r_ld (id := 7) rfl rfl rfl sc3) rfl ?_
        refine ol_g rfl rfl hs53 ?_
        refine ol_r (r_add rfl rfl (by omega)) rfl ?_
        refine ol_g rfl rfl hs53 ?_
        first | refine ol_r (r_rem rfl rfl (by omega)) rfl ?_ | refine ol_r (r_trem rfl rfl (by omega)) rfl ?_
        refine ol_g rfl rfl hs53 ?_
        refine ol_r (r_neq rfl rfl) rfl ?_
        refine ol_r (r_pickF rfl hs53 rfl) rfl ?_
        refine ol_nil (to_k0 (fun _ _ h => h) (hK13 _ _ _ _ _ ?_))
        clear hK13
        first | refine wp_condD rfl (fun hc61 => ?_) (fun hc61 => ?_) | refine wp_condN rfl (fun hc61 => ?_) (fun hc61 => ?_) | refine wp_condNB rfl (fun hc61 => ?_) (fun hc61 => ?_) | refine wp_cond' rfl (fun hc61 => ?_) (fun hc61 => ?_)
        ·refine wp_seq' fun K16 hK16 => ?_
         refine wp_reg ?_
         refine ol_r (r_lda (id := 2) (n := 6) rfl rfl rfl ag57) rfl ?_
         refine ol_store (id := 4) rfl rfl rfl rfl sz57 rfl rfl (by first | decide | exact Nat.zero_lt_succ _ | simp) ?_
         refine ol_r (r_assign rfl) rfl ?_
         refine ol_nil (to_k0 (fun _ _ h => h) (hK16 _ _ _ _ _ ?_))
         clear hK16
         refine hQ.ret (rvs2 (rv_c (id := 4) (n := 6) rfl rfl ag57 rfl) (rv_t rfl)) (fun _ _ h => h) fun w hb hs hB hkd => ?_
         exact ⟨rfl, hb⟩
        ·exfalso
         exact hno p q (by omega) hp (by rw [← hq]; congr 1; omega) (by omega) ⟨by omega, by omega, by omega⟩
end Go.Proofs.Ytfbmkepogcimlaa

/-
  Scale, rounded to the nearest.
-/


namespace Go.Proofs.Ytfbmkepogcimlaa
open Go Go.RowKit Hx
set_option linter.unusedVariables false
set_option linter.unusedSimpArgs false
set_option maxRecDepth 8000
theorem retI {x y : Int} (h : x = y) : Ending.returned (Value.tuple #[.int .i64 x, .int .i64 0]) = Ending.returned (Value.tuple #[.int .i64 y, .int .i64 0]) := by rw [h]
theorem near_away {r d : Int} {m : Bool} : (decide (0 < cmpI r (d - r)) || decide (cmpI r (d - r) = 0) && !m) = true ↔ (d - r < r ∨ d - r = r ∧ m = false) := by
  unfold cmpI
  by_cases h1 : r < d - r
  · rw [if_pos h1]
    simp
    omega
  · rw [if_neg h1]
    by_cases h2 : d - r < r
    · rw [if_pos h2]
      simp [h2]
    · rw [if_neg h2]
      have h3 : d - r = r := by omega
      cases m <;> simp [h3]
theorem nv1 {a num den : Int} (h : a < 0) (h1 : 0 < -a * num % den) (h2 : (decide (0 < cmpI (-a * num % den) (den - -a * num % den)) || decide (cmpI (-a * num % den) (den - -a * num % den) = 0) && !decide (a < 0)) = true) : -(-a * num / den + 1) = nearV a num den := by
  have e : nearV a num den = -nearP (-a * num) den true := if_pos h
  rw [decide_eq_true h] at h2
  rw [e, nearP, if_pos ⟨h1, near_away.1 h2⟩]
theorem nv2 {a num den : Int} (h : a < 0) (h1 : 0 < -a * num % den) (h2 : (decide (0 < cmpI (-a * num % den) (den - -a * num % den)) || decide (cmpI (-a * num % den) (den - -a * num % den) = 0) && !decide (a < 0)) = false) : -(-a * num / den) = nearV a num den := by
  have e : nearV a num den = -nearP (-a * num) den true := if_pos h
  rw [decide_eq_true h] at h2
  rw [e, nearP, if_neg (fun h3 => by rw [near_away.2 h3.2] at h2; cases h2), Int.add_zero]
theorem nv3 {a num den : Int} (h : a < 0) (h1 : ¬0 < -a * num % den) : -(-a * num / den) = nearV a num den := by
  have e : nearV a num den = -nearP (-a * num) den true := if_pos h
  rw [e, nearP, if_neg (fun h3 => h1 h3.1), Int.add_zero]
theorem pv1 {a num den : Int} (h : ¬a < 0) (h1 : 0 < a * num % den) (h2 : (decide (0 < cmpI (a * num % den) (den - a * num % den)) || decide (cmpI (a * num % den) (den - a * num % den) = 0) && !decide (a < 0)) = true) : a * num / den + 1 = nearV a num den := by
  have e : nearV a num den = nearP (a * num) den false := if_neg h
  rw [decide_eq_false h] at h2
  rw [e, nearP, if_pos ⟨h1, near_away.1 h2⟩]
theorem pv2 {a num den : Int} (h : ¬a < 0) (h1 : 0 < a * num % den) (h2 : (decide (0 < cmpI (a * num % den) (den - a * num % den)) || decide (cmpI (a * num % den) (den - a * num % den) = 0) && !decide (a < 0)) = false) : a * num / den = nearV a num den := by
  have e : nearV a num den = nearP (a * num) den false := if_neg h
  rw [decide_eq_false h] at h2
  rw [e, nearP, if_neg (fun h3 => by rw [near_away.2 h3.2] at h2; cases h2), Int.add_zero]
theorem pv3 {a num den : Int} (h : ¬a < 0) (h1 : ¬0 < a * num % den) : a * num / den = nearV a num den := by
  have e : nearV a num den = nearP (a * num) den false := if_neg h
  rw [e, nearP, if_neg (fun h3 => h1 h3.1), Int.add_zero]
theorem quant_ScaleNear (a num den : Int) (w : World) (ha : -4294967295 ≤ a ∧ a ≤ 4294967295) (hn : 0 ≤ num ∧ num ≤ 4294967295) (hd : 1 ≤ den ∧ den ≤ 4294967295) (hx : 0 ≤ a → 0 ≤ a * num ∧ a * num ≤ 1000000000000000000) (hx' : a < 0 → 0 ≤ -a * num ∧ -a * num ≤ 1000000000000000000) :
    Calls Try.prog 64 #[.int .i64 a, .int .i64 num, .int .i64 den, .int .i64 4] w fun e w' => e = .returned (.tuple #[.int .i64 (nearV a num den), .int .i64 0]) ∧ Below w.heap.size w w' := by
  have hq : ∀ x : Int, 0 ≤ x → 0 ≤ x / den ∧ x / den ≤ x ∧ 0 ≤ x % den ∧ x % den < den := fun x h => ⟨Int.ediv_nonneg h (by omega), Int.ediv_le_self _ h, Int.emod_nonneg _ (by omega), Int.emod_lt_of_pos _ (by omega)⟩
  refine enterQ (N := 88) (C := fun _ => True) (H := []) (B := w.heap.size) (args := [_, _, _, _]) Try.func64 rfl rfl rfl (Nat.le_refl _) (Sat.nil _ _) fun Q hQ => ?_
  refine wp_seq' fun K1 hK1 => ?_
  refine wp_reg ?_
  refine ol_box 7 rfl rfl rfl fun b7 => ?_
  refine ol_r (r_assign rfl) rfl ?_
  refine ol_r (r_assign rfl) rfl ?_
  refine ol_nil (to_k0 (fun _ _ h => h) (hK1 _ _ _ _ _ ?_))
  clear hK1
  refine wp_seq' fun K2 hK2 => ?_
  refine wp_reg ?_
  refine ol_call rfl rfl cb91 rfl (fun w1 hb1 hs1 hB1 => Calls.mono (quant_ways _) ?_)
  rintro e w2 ⟨a18, n18, c18, rfl, hf18⟩
  refine After.fresh (id := 18) rfl hb1 hs1 hB1 hf18 ?_
  have hl18 := hf18.len; clear hf18 hB1 hs1 hb1 w2 w1
  refine ol_r (r_assign rfl) rfl ?_
  refine ol_nil (to_k0 (fun _ _ h => h) (hK2 _ _ _ _ _ ?_))
  clear hK2
  refine wp_seq' fun K3 hK3 => ?_
  refine wp_reg ?_
  have hn18 : n18 = 5 := by rw [← hl18]; rfl
  refine ol_r (r_move rfl) rfl ?_
  refine ol_r (r_func rfl) rfl ?_
  refine ol_call rfl rfl cb92 rfl (fun w1 hb1 hs1 hB1 => Calls.mono (indexFunc_way _ _ _ waysL _ _ (fun x => decide (x.1 = 4)) 3 _ (Sat.rd hs1 (E := encWay) (id := 18) rfl rfl) cb93 rfl (fun x w' _ h1 h2 => scale_is x 4 _ w' ((hs1.blk (id := 7) rfl).at h1 h2))) ?_)
  rintro e w2 ⟨rfl, hb2⟩
  refine After.below rfl hb1 hs1 hB1 hb2 ?_
  clear hb2 hB1 hs1 hb1 w2 w1
  refine ol_r (r_assign rfl) rfl ?_
  refine ol_nil (to_k0 (fun _ _ h => h) (hK3 _ _ _ _ _ ?_))
  clear hK3
  refine wp_seq' fun K4 hK4 => ?_
  refine wp_seq' fun K5 hK5 => ?_
  refine wp_reg ?_
  refine ol_r (r_move rfl) rfl ?_
  refine ol_r (r_lss rfl rfl) rfl ?_
  refine ol_nil (to_k0 (fun _ _ h => h) (hK5 _ _ _ _ _ ?_))
  clear hK5
  refine wp_condD rfl (fun hc23 => ?_) (fun hc23 => ?_)
  ·exfalso
   omega
  ·refine wp_skip' (to_k0 (fun _ _ h => h) (hK4 _ _ _ _ _ ?_))
   clear hK4
   refine wp_seq' fun K6 hK6 => ?_
   refine wp_seq' fun K7 hK7 => ?_
   refine wp_reg ?_
   refine ol_r (r_move rfl) rfl ?_
   refine ol_r (r_leq rfl rfl) rfl ?_
   refine ol_r (r_move rfl) rfl ?_
   refine ol_split (d := 26) rfl (fun hs26 => ?_) (fun hs26 => ?_)
   ·have phs26 := hs26; try simp only [decide_eq_true_eq, decide_eq_false_iff_not, Bool.not_eq_true', Bool.not_eq_false', Bool.not_true, Bool.not_false] at phs26
    refine ol_s rfl rfl hs26 rfl ?_
    refine ol_s rfl rfl hs26 rfl ?_
    refine ol_r (r_pickT rfl hs26 rfl) rfl ?_
    refine ol_nil (to_k0 (fun _ _ h => h) (hK7 _ _ _ _ _ ?_))
    clear hK7
    refine wp_condT rfl ?_
    refine wp_seq' fun K8 hK8 => ?_
    refine wp_reg ?_
    refine ol_r (r_assign rfl) rfl ?_
    refine ol_r (r_assign rfl) rfl ?_
    refine ol_nil (to_k0 (fun _ _ h => h) (hK8 _ _ _ _ _ ?_))
    clear hK8
    refine hQ.ret (rvs2 (rv_t rfl) (rv_t rfl)) (fun _ _ h => h) fun w hb hs hB hkd => ?_
    exfalso
    omega
   ·have phs26 := hs26; try simp only [decide_eq_true_eq, decide_eq_false_iff_not, Bool.not_eq_true', Bool.not_eq_false', Bool.not_true, Bool.not_false] at phs26
    refine ol_g rfl rfl hs26 ?_
    refine ol_r (r_move rfl) rfl ?_
    refine ol_g rfl rfl hs26 ?_
    refine ol_r (r_lss rfl rfl) rfl ?_
    refine ol_r (r_pickF rfl hs26 rfl) rfl ?_
    refine ol_nil (to_k0 (fun _ _ h => h) (hK7 _ _ _ _ _ ?_))
    clear hK7
    refine wp_condD rfl (fun hc29 => ?_) (fun hc29 => ?_)
    ·exfalso
     omega
    ·refine wp_skip' (to_k0 (fun _ _ h => h) (hK6 _ _ _ _ _ ?_))
     clear hK6
     refine wp_seq' fun K9 hK9 => ?_
     refine wp_reg ?_
     refine ol_r (r_move rfl) rfl ?_
     refine ol_r (r_lss rfl rfl) rfl ?_
     refine ol_r (r_assign rfl) rfl ?_
     refine ol_nil (to_k0 (fun _ _ h => h) (hK9 _ _ _ _ _ ?_))
     clear hK9
     refine wp_seq' fun K10 hK10 => ?_
     refine wp_reg ?_
     refine ol_r (r_move rfl) rfl ?_
     refine ol_r (r_convg (k2 := .u64) (if a < 0 then a + 18446744073709551616 else a) rfl (by kernel_rfl) (by kernel_rfl) (by rw [IntKind.wrap_u64]; split <;> omega)) rfl ?_
     refine ol_r (r_assign rfl) rfl ?_
     refine ol_nil (to_k0 (fun _ _ h => h) (hK10 _ _ _ _ _ ?_))
     clear hK10
     refine wp_seq' fun K11 hK11 => ?_
     refine wp_seq' fun K12 hK12 => ?_
     refine wp_reg ?_
     refine ol_r (r_move rfl) rfl ?_
     refine ol_nil (to_k0 (fun _ _ h => h) (hK12 _ _ _ _ _ ?_))
     clear hK12
     refine wp_condD rfl (fun hc34 => ?_) (fun hc34 => ?_)
     ·refine wp_reg ?_
      refine ol_r (r_move rfl) rfl ?_
      refine ol_r (r_negg (-a) rfl (by rw [if_pos hc34]; exact wrapu_negneg (by omega))) rfl ?_
      refine ol_r (r_assign rfl) rfl ?_
      refine ol_nil (to_k0 (fun _ _ h => h) (hK11 _ _ _ _ _ ?_))
      clear hK11
      refine wp_seq' fun K13 hK13 => ?_
      refine wp_reg ?_
      first
        | (have hxa := hx' hc34
           have hqa := hq _ hxa.1)
        | (have hxa := hx (by omega)
           have hqa := hq _ hxa.1
           rw [if_neg hc34])
      refine ol_r (r_move rfl) rfl ?_
      refine ol_r (r_move rfl) rfl ?_
      refine ol_r (r_conv (k2 := .u64) rfl (by kernel_rfl) (by kernel_rfl) (wrap_u64 (by omega))) rfl ?_
      refine ol_call rfl rfl cb94 rfl (fun w1 hb1 hs1 hB1 => Calls.mono (bits_Mul64 (-a) num _ (by omega) hn (by omega)) ?_)
      rintro e w2 ⟨rfl, hb2⟩
      refine After.below rfl hb1 hs1 hB1 hb2 ?_
      clear hb2 hB1 hs1 hb1 w2 w1
      refine ol_r (r_move rfl) rfl ?_
      refine ol_r (r_extract rfl rfl) rfl ?_
      refine ol_r (r_extract rfl rfl) rfl ?_
      refine ol_r (r_assign rfl) rfl ?_
      refine ol_r (r_assign rfl) rfl ?_
      refine ol_nil (to_k0 (fun _ _ h => h) (hK13 _ _ _ _ _ ?_))
      clear hK13
      refine wp_seq' fun K14 hK14 => ?_
      refine wp_seq' fun K15 hK15 => ?_
      refine wp_reg ?_
      refine ol_r (r_move rfl) rfl ?_
      refine ol_r (r_move rfl) rfl ?_
      refine ol_r (r_conv (k2 := .u64) rfl (by kernel_rfl) (by kernel_rfl) (wrap_u64 (by omega))) rfl ?_
      refine ol_r (r_geq rfl rfl) rfl ?_
      refine ol_nil (to_k0 (fun _ _ h => h) (hK15 _ _ _ _ _ ?_))
      clear hK15
      refine wp_condD rfl (fun hc47 => ?_) (fun hc47 => ?_)
      ·exfalso
       omega
      ·refine wp_skip' (to_k0 (fun _ _ h => h) (hK14 _ _ _ _ _ ?_))
       clear hK14
       refine wp_seq' fun K16 hK16 => ?_
       refine wp_reg ?_
       refine ol_r (r_move rfl) rfl ?_
       refine ol_r (r_move rfl) rfl ?_
       refine ol_r (r_move rfl) rfl ?_
       refine ol_r (r_conv (k2 := .u64) rfl (by kernel_rfl) (by kernel_rfl) (wrap_u64 (by omega))) rfl ?_
       refine ol_call rfl rfl cb95 rfl (fun w1 hb1 hs1 hB1 => Calls.mono (bits_Div64 (-a * num) den _ (by omega) (by omega)) ?_)
       rintro e w2 ⟨rfl, hb2⟩
       refine After.below rfl hb1 hs1 hB1 hb2 ?_
       clear hb2 hB1 hs1 hb1 w2 w1
       refine ol_r (r_move rfl) rfl ?_
       refine ol_r (r_extract rfl rfl) rfl ?_
       refine ol_r (r_extract rfl rfl) rfl ?_
       refine ol_r (r_assign rfl) rfl ?_
       refine ol_r (r_assign rfl) rfl ?_
       refine ol_nil (to_k0 (fun _ _ h => h) (hK16 _ _ _ _ _ ?_))
       clear hK16
       refine wp_seq' fun K17 hK17 => ?_
       refine wp_seq' fun K18 hK18 => ?_
       refine wp_regq (by kernel_rfl) (by kernel_rfl) ?_
       refine ql_r (r_move rfl) rfl ?_
       refine ql_r (r_gtr rfl rfl) rfl ?_
       refine ql_r (r_move rfl) rfl ?_
       refine ql_split (d := 58) rfl (fun hs58 => ?_) (fun hs58 => ?_)
       ·have phs58 := hs58; try simp only [decide_eq_true_eq, decide_eq_false_iff_not, Bool.not_eq_true', Bool.not_eq_false', Bool.not_true, Bool.not_false] at phs58
        refine ql_g rfl rfl hs58 ?_
        refine ql_r (r_move rfl) rfl ?_
        refine ql_g rfl rfl hs58 ?_
        refine ql_r (r_leq rfl rfl) rfl ?_
        refine ql_r (r_pickT rfl hs58 rfl) rfl ?_
        refine ql_r (r_move rfl) rfl ?_
        refine ql_split (d := 62) rfl (fun hs62 => ?_) (fun hs62 => ?_)
        ·have phs62 := hs62; try simp only [decide_eq_true_eq, decide_eq_false_iff_not, Bool.not_eq_true', Bool.not_eq_false', Bool.not_true, Bool.not_false] at phs62
         refine ql_g rfl rfl hs62 ?_
         refine ql_r (r_move rfl) rfl ?_
         refine ql_g rfl rfl hs62 ?_
         refine ql_r (r_move rfl) rfl ?_
         refine ql_g rfl rfl hs62 ?_
         refine ql_ixo (id := 18) encWay waysL rfl rfl rfl rfl sl163 (by omega) (by omega) rfl fun x65 hx65 => ?_
         try simp only [Int.toNat_natCast] at hx65
         try simp only [Int.toNat_natCast] at hx65
         refine ql_g rfl rfl hs62 ?_
         have h65 := Option.some.inj (hx65.symm.trans (show _ = some ((4, 126) : Int × FuncId) from rfl))
         subst h65
         refine ql_r (r_faO (id := 18) rfl rfl rfl hx65 fl168_1) rfl ?_
         refine ql_g rfl rfl hs62 ?_
         refine ql_r (r_ldw rfl (fun w1 hb1 hs1 hB1 => ld_ownF (id := 18) (o := 1) hs1 rfl rfl sc166 hx65 rfl)) rfl ?_
         refine ql_g rfl rfl hs62 ?_
         refine ql_r (r_move rfl) rfl ?_
         refine ql_g rfl rfl hs62 ?_
         refine ql_r (r_move rfl) rfl ?_
         refine ql_g rfl rfl hs62 ?_
         refine ql_r (r_move rfl) rfl ?_
         refine ql_g rfl rfl hs62 ?_
         refine ql_r (r_move rfl) rfl ?_
         refine ql_g rfl rfl hs62 ?_
         refine ql_r (r_conv (k2 := .u64) rfl (by kernel_rfl) (by kernel_rfl) (wrap_u64 (by omega))) rfl ?_
         refine ql_g rfl rfl hs62 ?_
         refine ql_r (r_move rfl) rfl ?_
         refine ql_g rfl rfl hs62 ?_
         refine ql_r (r_subg _ rfl rfl (wrap_u64 (by omega))) rfl ?_
         refine ql_g rfl rfl hs62 ?_
         refine ql_call rfl rfl cb96 rfl (fun w1 hb1 hs1 hB1 => cmp_Compareu _ _ _) ?_
         refine ql_g rfl rfl hs62 ?_
         refine ql_call rfl rfl cb126 rfl (fun w1 hb1 hs1 hB1 => way_near _ _ _ _) ?_
         refine ql_r (r_pickT rfl hs62 rfl) rfl ?_
         refine ql_nil (to_k0 (fun _ _ h => h) (hK18 _ _ _ _ _ ?_))
         clear hK18
         refine wp_cond' rfl (fun hc77 => ?_) (fun hc77 => ?_)
         ·refine wp_reg ?_
          refine ol_r (r_move rfl) rfl ?_
          refine ol_r (r_addg _ rfl rfl (wrap_u64 (by omega))) rfl ?_
          refine ol_r (r_assign rfl) rfl ?_
          refine ol_nil (to_k0 (fun _ _ h => h) (hK17 _ _ _ _ _ ?_))
          clear hK17
          refine wp_seq' fun K19 hK19 => ?_
          refine wp_seq' fun K20 hK20 => ?_
          refine wp_reg ?_
          refine ol_r (r_move rfl) rfl ?_
          refine ol_r (r_gtr rfl rfl) rfl ?_
          refine ol_nil (to_k0 (fun _ _ h => h) (hK20 _ _ _ _ _ ?_))
          clear hK20
          refine wp_condD rfl (fun hc81 => ?_) (fun hc81 => ?_)
          ·exfalso
           omega
          ·refine wp_skip' (to_k0 (fun _ _ h => h) (hK19 _ _ _ _ _ ?_))
           clear hK19
           refine wp_seq' fun K21 hK21 => ?_
           refine wp_seq' fun K22 hK22 => ?_
           refine wp_reg ?_
           refine ol_r (r_move rfl) rfl ?_
           refine ol_nil (to_k0 (fun _ _ h => h) (hK22 _ _ _ _ _ ?_))
           clear hK22
           refine wp_condD rfl (fun hc82 => ?_) (fun hc82 => ?_)
           ·refine wp_seq' fun K23 hK23 => ?_
            refine wp_reg ?_
            refine ol_r (r_move rfl) rfl ?_
            refine ol_r (r_conv (k2 := .i64) rfl (by kernel_rfl) (by kernel_rfl) (IntWalk.i64_in _ (by omega))) rfl ?_
            refine ol_r (r_neg rfl (by omega)) rfl ?_
            refine ol_r (r_assign rfl) rfl ?_
            refine ol_r (r_assign rfl) rfl ?_
            refine ol_nil (to_k0 (fun _ _ h => h) (hK23 _ _ _ _ _ ?_))
            clear hK23
            refine hQ.ret (rvs2 (rv_t rfl) (rv_t rfl)) (fun _ _ h => h) fun w hb hs hB hkd => ?_
            exact ⟨retI (nv1 hc34 phs58 hc77), hb⟩
           ·refine wp_skip' (to_k0 (fun _ _ h => h) (hK21 _ _ _ _ _ ?_))
            clear hK21
            refine wp_seq' fun K24 hK24 => ?_
            refine wp_reg ?_
            refine ol_r (r_move rfl) rfl ?_
            refine ol_r (r_conv (k2 := .i64) rfl (by kernel_rfl) (by kernel_rfl) (IntWalk.i64_in _ (by omega))) rfl ?_
            refine ol_r (r_assign rfl) rfl ?_
            refine ol_r (r_assign rfl) rfl ?_
            refine ol_nil (to_k0 (fun _ _ h => h) (hK24 _ _ _ _ _ ?_))
            clear hK24
            refine hQ.ret (rvs2 (rv_t rfl) (rv_t rfl)) (fun _ _ h => h) fun w hb hs hB hkd => ?_
            exfalso
            omega
         ·refine wp_skip' (to_k0 (fun _ _ h => h) (hK17 _ _ _ _ _ ?_))
          clear hK17
          refine wp_seq' fun K25 hK25 => ?_
          refine wp_seq' fun K26 hK26 => ?_
          refine wp_reg ?_
          refine ol_r (r_move rfl) rfl ?_
          refine ol_r (r_gtr rfl rfl) rfl ?_
          refine ol_nil (to_k0 (fun _ _ h => h) (hK26 _ _ _ _ _ ?_))
          clear hK26
          refine wp_condD rfl (fun hc81 => ?_) (fun hc81 => ?_)
          ·exfalso
           omega
          ·refine wp_skip' (to_k0 (fun _ _ h => h) (hK25 _ _ _ _ _ ?_))
           clear hK25
           refine wp_seq' fun K27 hK27 => ?_
           refine wp_seq' fun K28 hK28 => ?_
           refine wp_reg ?_
           refine ol_r (r_move rfl) rfl ?_
           refine ol_nil (to_k0 (fun _ _ h => h) (hK28 _ _ _ _ _ ?_))
           clear hK28
           refine wp_condD rfl (fun hc82 => ?_) (fun hc82 => ?_)
           ·refine wp_seq' fun K29 hK29 => ?_
            refine wp_reg ?_
            refine ol_r (r_move rfl) rfl ?_
            refine ol_r (r_conv (k2 := .i64) rfl (by kernel_rfl) (by kernel_rfl) (IntWalk.i64_in _ (by omega))) rfl ?_
            refine ol_r (r_neg rfl (by omega)) rfl ?_
            refine ol_r (r_assign rfl) rfl ?_
            refine ol_r (r_assign rfl) rfl ?_
            refine ol_nil (to_k0 (fun _ _ h => h) (hK29 _ _ _ _ _ ?_))
            clear hK29
            refine hQ.ret (rvs2 (rv_t rfl) (rv_t rfl)) (fun _ _ h => h) fun w hb hs hB hkd => ?_
            exact ⟨retI (nv2 hc34 phs58 hc77), hb⟩
           ·refine wp_skip' (to_k0 (fun _ _ h => h) (hK27 _ _ _ _ _ ?_))
            clear hK27
            refine wp_seq' fun K30 hK30 => ?_
            refine wp_reg ?_
            refine ol_r (r_move rfl) rfl ?_
            refine ol_r (r_conv (k2 := .i64) rfl (by kernel_rfl) (by kernel_rfl) (IntWalk.i64_in _ (by omega))) rfl ?_
            refine ol_r (r_assign rfl) rfl ?_
            refine ol_r (r_assign rfl) rfl ?_
            refine ol_nil (to_k0 (fun _ _ h => h) (hK30 _ _ _ _ _ ?_))
            clear hK30
            refine hQ.ret (rvs2 (rv_t rfl) (rv_t rfl)) (fun _ _ h => h) fun w hb hs hB hkd => ?_
            exfalso
            omega
        ·have phs62 := hs62; try simp only [decide_eq_true_eq, decide_eq_false_iff_not, Bool.not_eq_true', Bool.not_eq_false', Bool.not_true, Bool.not_false] at phs62
         refine ql_s rfl rfl hs62 rfl ?_
         refine ql_s rfl rfl hs62 rfl ?_
         refine ql_s rfl rfl hs62 rfl ?_
         refine ql_s rfl rfl hs62 rfl ?_
         refine ql_s rfl rfl hs62 rfl ?_
         refine ql_s rfl rfl hs62 rfl ?_
         refine ql_s rfl rfl hs62 rfl ?_
         refine ql_s rfl rfl hs62 rfl ?_
         refine ql_s rfl rfl hs62 rfl ?_
         refine ql_s rfl rfl hs62 rfl ?_
         refine ql_s rfl rfl hs62 rfl ?_
         refine ql_s rfl rfl hs62 rfl ?_
         refine ql_s rfl rfl hs62 rfl ?_
         refine ql_s rfl rfl hs62 rfl ?_
         refine ql_r (r_pickF rfl hs62 rfl) rfl ?_
         refine ql_nil (to_k0 (fun _ _ h => h) (hK18 _ _ _ _ _ ?_))
         clear hK18
         refine wp_condF rfl ?_
         refine wp_skip' (to_k0 (fun _ _ h => h) (hK17 _ _ _ _ _ ?_))
         clear hK17
         refine wp_seq' fun K31 hK31 => ?_
         refine wp_seq' fun K32 hK32 => ?_
         refine wp_reg ?_
         refine ol_r (r_move rfl) rfl ?_
         refine ol_r (r_gtr rfl rfl) rfl ?_
         refine ol_nil (to_k0 (fun _ _ h => h) (hK32 _ _ _ _ _ ?_))
         clear hK32
         refine wp_condD rfl (fun hc81 => ?_) (fun hc81 => ?_)
         ·exfalso
          omega
         ·refine wp_skip' (to_k0 (fun _ _ h => h) (hK31 _ _ _ _ _ ?_))
          clear hK31
          refine wp_seq' fun K33 hK33 => ?_
          refine wp_seq' fun K34 hK34 => ?_
          refine wp_reg ?_
          refine ol_r (r_move rfl) rfl ?_
          refine ol_nil (to_k0 (fun _ _ h => h) (hK34 _ _ _ _ _ ?_))
          clear hK34
          refine wp_condD rfl (fun hc82 => ?_) (fun hc82 => ?_)
          ·refine wp_seq' fun K35 hK35 => ?_
           refine wp_reg ?_
           refine ol_r (r_move rfl) rfl ?_
           refine ol_r (r_conv (k2 := .i64) rfl (by kernel_rfl) (by kernel_rfl) (IntWalk.i64_in _ (by omega))) rfl ?_
           refine ol_r (r_neg rfl (by omega)) rfl ?_
           refine ol_r (r_assign rfl) rfl ?_
           refine ol_r (r_assign rfl) rfl ?_
           refine ol_nil (to_k0 (fun _ _ h => h) (hK35 _ _ _ _ _ ?_))
           clear hK35
           refine hQ.ret (rvs2 (rv_t rfl) (rv_t rfl)) (fun _ _ h => h) fun w hb hs hB hkd => ?_
           exfalso
           omega
          ·refine wp_skip' (to_k0 (fun _ _ h => h) (hK33 _ _ _ _ _ ?_))
           clear hK33
           refine wp_seq' fun K36 hK36 => ?_
           refine wp_reg ?_
           refine ol_r (r_move rfl) rfl ?_
           refine ol_r (r_conv (k2 := .i64) rfl (by kernel_rfl) (by kernel_rfl) (IntWalk.i64_in _ (by omega))) rfl ?_
           refine ol_r (r_assign rfl) rfl ?_
           refine ol_r (r_assign rfl) rfl ?_
           refine ol_nil (to_k0 (fun _ _ h => h) (hK36 _ _ _ _ _ ?_))
           clear hK36
           refine hQ.ret (rvs2 (rv_t rfl) (rv_t rfl)) (fun _ _ h => h) fun w hb hs hB hkd => ?_
           exfalso
           omega
       ·have phs58 := hs58; try simp only [decide_eq_true_eq, decide_eq_false_iff_not, Bool.not_eq_true', Bool.not_eq_false', Bool.not_true, Bool.not_false] at phs58
        refine ql_s rfl rfl hs58 rfl ?_
        refine ql_s rfl rfl hs58 rfl ?_
        refine ql_r (r_pickF rfl hs58 rfl) rfl ?_
        refine ql_r (r_move rfl) rfl ?_
        refine ql_s rfl rfl rfl rfl ?_
        refine ql_s rfl rfl rfl rfl ?_
        refine ql_s rfl rfl rfl rfl ?_
        refine ql_s rfl rfl rfl rfl ?_
        refine ql_s rfl rfl rfl rfl ?_
        refine ql_s rfl rfl rfl rfl ?_
        refine ql_s rfl rfl rfl rfl ?_
        refine ql_s rfl rfl rfl rfl ?_
        refine ql_s rfl rfl rfl rfl ?_
        refine ql_s rfl rfl rfl rfl ?_
        refine ql_s rfl rfl rfl rfl ?_
        refine ql_s rfl rfl rfl rfl ?_
        refine ql_s rfl rfl rfl rfl ?_
        refine ql_s rfl rfl rfl rfl ?_
        refine ql_r (r_pickF rfl rfl rfl) rfl ?_
        refine ql_nil (to_k0 (fun _ _ h => h) (hK18 _ _ _ _ _ ?_))
        clear hK18
        refine wp_condF rfl ?_
        refine wp_skip' (to_k0 (fun _ _ h => h) (hK17 _ _ _ _ _ ?_))
        clear hK17
        refine wp_seq' fun K37 hK37 => ?_
        refine wp_seq' fun K38 hK38 => ?_
        refine wp_reg ?_
        refine ol_r (r_move rfl) rfl ?_
        refine ol_r (r_gtr rfl rfl) rfl ?_
        refine ol_nil (to_k0 (fun _ _ h => h) (hK38 _ _ _ _ _ ?_))
        clear hK38
        refine wp_condD rfl (fun hc81 => ?_) (fun hc81 => ?_)
        ·exfalso
         omega
        ·refine wp_skip' (to_k0 (fun _ _ h => h) (hK37 _ _ _ _ _ ?_))
         clear hK37
         refine wp_seq' fun K39 hK39 => ?_
         refine wp_seq' fun K40 hK40 => ?_
         refine wp_reg ?_
         refine ol_r (r_move rfl) rfl ?_
         refine ol_nil (to_k0 (fun _ _ h => h) (hK40 _ _ _ _ _ ?_))
         clear hK40
         refine wp_condD rfl (fun hc82 => ?_) (fun hc82 => ?_)
         ·refine wp_seq' fun K41 hK41 => ?_
          refine wp_reg ?_
          refine ol_r (r_move rfl) rfl ?_
          refine ol_r (r_conv (k2 := .i64) rfl (by kernel_rfl) (by kernel_rfl) (IntWalk.i64_in _ (by omega))) rfl ?_
          refine ol_r (r_neg rfl (by omega)) rfl ?_
          refine ol_r (r_assign rfl) rfl ?_
          refine ol_r (r_assign rfl) rfl ?_
          refine ol_nil (to_k0 (fun _ _ h => h) (hK41 _ _ _ _ _ ?_))
          clear hK41
          refine hQ.ret (rvs2 (rv_t rfl) (rv_t rfl)) (fun _ _ h => h) fun w hb hs hB hkd => ?_
          exact ⟨retI (nv3 hc34 phs58), hb⟩
         ·refine wp_skip' (to_k0 (fun _ _ h => h) (hK39 _ _ _ _ _ ?_))
          clear hK39
          refine wp_seq' fun K42 hK42 => ?_
          refine wp_reg ?_
          refine ol_r (r_move rfl) rfl ?_
          refine ol_r (r_conv (k2 := .i64) rfl (by kernel_rfl) (by kernel_rfl) (IntWalk.i64_in _ (by omega))) rfl ?_
          refine ol_r (r_assign rfl) rfl ?_
          refine ol_r (r_assign rfl) rfl ?_
          refine ol_nil (to_k0 (fun _ _ h => h) (hK42 _ _ _ _ _ ?_))
          clear hK42
          refine hQ.ret (rvs2 (rv_t rfl) (rv_t rfl)) (fun _ _ h => h) fun w hb hs hB hkd => ?_
          exfalso
          omega
     ·refine wp_skip' (to_k0 (fun _ _ h => h) (hK11 _ _ _ _ _ ?_))
      clear hK11
      refine wp_seq' fun K43 hK43 => ?_
      refine wp_reg ?_
      first
        | (have hxa := hx' hc34
           have hqa := hq _ hxa.1)
        | (have hxa := hx (by omega)
           have hqa := hq _ hxa.1
           rw [if_neg hc34])
      refine ol_r (r_move rfl) rfl ?_
      refine ol_r (r_move rfl) rfl ?_
      refine ol_r (r_conv (k2 := .u64) rfl (by kernel_rfl) (by kernel_rfl) (wrap_u64 (by omega))) rfl ?_
      refine ol_call rfl rfl cb94 rfl (fun w1 hb1 hs1 hB1 => Calls.mono (bits_Mul64 a num _ (by omega) hn (by omega)) ?_)
      rintro e w2 ⟨rfl, hb2⟩
      refine After.below rfl hb1 hs1 hB1 hb2 ?_
      clear hb2 hB1 hs1 hb1 w2 w1
      refine ol_r (r_move rfl) rfl ?_
      refine ol_r (r_extract rfl rfl) rfl ?_
      refine ol_r (r_extract rfl rfl) rfl ?_
      refine ol_r (r_assign rfl) rfl ?_
      refine ol_r (r_assign rfl) rfl ?_
      refine ol_nil (to_k0 (fun _ _ h => h) (hK43 _ _ _ _ _ ?_))
      clear hK43
      refine wp_seq' fun K44 hK44 => ?_
      refine wp_seq' fun K45 hK45 => ?_
      refine wp_reg ?_
      refine ol_r (r_move rfl) rfl ?_
      refine ol_r (r_move rfl) rfl ?_
      refine ol_r (r_conv (k2 := .u64) rfl (by kernel_rfl) (by kernel_rfl) (wrap_u64 (by omega))) rfl ?_
      refine ol_r (r_geq rfl rfl) rfl ?_
      refine ol_nil (to_k0 (fun _ _ h => h) (hK45 _ _ _ _ _ ?_))
      clear hK45
      refine wp_condD rfl (fun hc47 => ?_) (fun hc47 => ?_)
      ·exfalso
       omega
      ·refine wp_skip' (to_k0 (fun _ _ h => h) (hK44 _ _ _ _ _ ?_))
       clear hK44
       refine wp_seq' fun K46 hK46 => ?_
       refine wp_reg ?_
       refine ol_r (r_move rfl) rfl ?_
       refine ol_r (r_move rfl) rfl ?_
       refine ol_r (r_move rfl) rfl ?_
       refine ol_r (r_conv (k2 := .u64) rfl (by kernel_rfl) (by kernel_rfl) (wrap_u64 (by omega))) rfl ?_
       refine ol_call rfl rfl cb95 rfl (fun w1 hb1 hs1 hB1 => Calls.mono (bits_Div64 (a * num) den _ (by omega) (by omega)) ?_)
       rintro e w2 ⟨rfl, hb2⟩
       refine After.below rfl hb1 hs1 hB1 hb2 ?_
       clear hb2 hB1 hs1 hb1 w2 w1
       refine ol_r (r_move rfl) rfl ?_
       refine ol_r (r_extract rfl rfl) rfl ?_
       refine ol_r (r_extract rfl rfl) rfl ?_
       refine ol_r (r_assign rfl) rfl ?_
       refine ol_r (r_assign rfl) rfl ?_
       refine ol_nil (to_k0 (fun _ _ h => h) (hK46 _ _ _ _ _ ?_))
       clear hK46
       refine wp_seq' fun K47 hK47 => ?_
       refine wp_seq' fun K48 hK48 => ?_
       refine wp_regq (by kernel_rfl) (by kernel_rfl) ?_
       refine ql_r (r_move rfl) rfl ?_
       refine ql_r (r_gtr rfl rfl) rfl ?_
       refine ql_r (r_move rfl) rfl ?_
       refine ql_split (d := 58) rfl (fun hs58 => ?_) (fun hs58 => ?_)
       ·have phs58 := hs58; try simp only [decide_eq_true_eq, decide_eq_false_iff_not, Bool.not_eq_true', Bool.not_eq_false', Bool.not_true, Bool.not_false] at phs58
        refine ql_g rfl rfl hs58 ?_
        refine ql_r (r_move rfl) rfl ?_
        refine ql_g rfl rfl hs58 ?_
        refine ql_r (r_leq rfl rfl) rfl ?_
        refine ql_r (r_pickT rfl hs58 rfl) rfl ?_
        refine ql_r (r_move rfl) rfl ?_
        refine ql_split (d := 62) rfl (fun hs62 => ?_) (fun hs62 => ?_)
        ·have phs62 := hs62; try simp only [decide_eq_true_eq, decide_eq_false_iff_not, Bool.not_eq_true', Bool.not_eq_false', Bool.not_true, Bool.not_false] at phs62
         refine ql_g rfl rfl hs62 ?_
         refine ql_r (r_move rfl) rfl ?_
         refine ql_g rfl rfl hs62 ?_
         refine ql_r (r_move rfl) rfl ?_
         refine ql_g rfl rfl hs62 ?_
         refine ql_ixo (id := 18) encWay waysL rfl rfl rfl rfl sl163 (by omega) (by omega) rfl fun x65 hx65 => ?_
         try simp only [Int.toNat_natCast] at hx65
         try simp only [Int.toNat_natCast] at hx65
         refine ql_g rfl rfl hs62 ?_
         have h65 := Option.some.inj (hx65.symm.trans (show _ = some ((4, 126) : Int × FuncId) from rfl))
         subst h65
         refine ql_r (r_faO (id := 18) rfl rfl rfl hx65 fl168_1) rfl ?_
         refine ql_g rfl rfl hs62 ?_
         refine ql_r (r_ldw rfl (fun w1 hb1 hs1 hB1 => ld_ownF (id := 18) (o := 1) hs1 rfl rfl sc166 hx65 rfl)) rfl ?_
         refine ql_g rfl rfl hs62 ?_
         refine ql_r (r_move rfl) rfl ?_
         refine ql_g rfl rfl hs62 ?_
         refine ql_r (r_move rfl) rfl ?_
         refine ql_g rfl rfl hs62 ?_
         refine ql_r (r_move rfl) rfl ?_
         refine ql_g rfl rfl hs62 ?_
         refine ql_r (r_move rfl) rfl ?_
         refine ql_g rfl rfl hs62 ?_
         refine ql_r (r_conv (k2 := .u64) rfl (by kernel_rfl) (by kernel_rfl) (wrap_u64 (by omega))) rfl ?_
         refine ql_g rfl rfl hs62 ?_
         refine ql_r (r_move rfl) rfl ?_
         refine ql_g rfl rfl hs62 ?_
         refine ql_r (r_subg _ rfl rfl (wrap_u64 (by omega))) rfl ?_
         refine ql_g rfl rfl hs62 ?_
         refine ql_call rfl rfl cb96 rfl (fun w1 hb1 hs1 hB1 => cmp_Compareu _ _ _) ?_
         refine ql_g rfl rfl hs62 ?_
         refine ql_call rfl rfl cb126 rfl (fun w1 hb1 hs1 hB1 => way_near _ _ _ _) ?_
         refine ql_r (r_pickT rfl hs62 rfl) rfl ?_
         refine ql_nil (to_k0 (fun _ _ h => h) (hK48 _ _ _ _ _ ?_))
         clear hK48
         refine wp_cond' rfl (fun hc77 => ?_) (fun hc77 => ?_)
         ·refine wp_reg ?_
          refine ol_r (r_move rfl) rfl ?_
          refine ol_r (r_addg _ rfl rfl (wrap_u64 (by omega))) rfl ?_
          refine ol_r (r_assign rfl) rfl ?_
          refine ol_nil (to_k0 (fun _ _ h => h) (hK47 _ _ _ _ _ ?_))
          clear hK47
          refine wp_seq' fun K49 hK49 => ?_
          refine wp_seq' fun K50 hK50 => ?_
          refine wp_reg ?_
          refine ol_r (r_move rfl) rfl ?_
          refine ol_r (r_gtr rfl rfl) rfl ?_
          refine ol_nil (to_k0 (fun _ _ h => h) (hK50 _ _ _ _ _ ?_))
          clear hK50
          refine wp_condD rfl (fun hc81 => ?_) (fun hc81 => ?_)
          ·exfalso
           omega
          ·refine wp_skip' (to_k0 (fun _ _ h => h) (hK49 _ _ _ _ _ ?_))
           clear hK49
           refine wp_seq' fun K51 hK51 => ?_
           refine wp_seq' fun K52 hK52 => ?_
           refine wp_reg ?_
           refine ol_r (r_move rfl) rfl ?_
           refine ol_nil (to_k0 (fun _ _ h => h) (hK52 _ _ _ _ _ ?_))
           clear hK52
           refine wp_condD rfl (fun hc82 => ?_) (fun hc82 => ?_)
           ·refine wp_seq' fun K53 hK53 => ?_
            refine wp_reg ?_
            refine ol_r (r_move rfl) rfl ?_
            refine ol_r (r_conv (k2 := .i64) rfl (by kernel_rfl) (by kernel_rfl) (IntWalk.i64_in _ (by omega))) rfl ?_
            refine ol_r (r_neg rfl (by omega)) rfl ?_
            refine ol_r (r_assign rfl) rfl ?_
            refine ol_r (r_assign rfl) rfl ?_
            refine ol_nil (to_k0 (fun _ _ h => h) (hK53 _ _ _ _ _ ?_))
            clear hK53
            refine hQ.ret (rvs2 (rv_t rfl) (rv_t rfl)) (fun _ _ h => h) fun w hb hs hB hkd => ?_
            exfalso
            omega
           ·refine wp_skip' (to_k0 (fun _ _ h => h) (hK51 _ _ _ _ _ ?_))
            clear hK51
            refine wp_seq' fun K54 hK54 => ?_
            refine wp_reg ?_
            refine ol_r (r_move rfl) rfl ?_
            refine ol_r (r_conv (k2 := .i64) rfl (by kernel_rfl) (by kernel_rfl) (IntWalk.i64_in _ (by omega))) rfl ?_
            refine ol_r (r_assign rfl) rfl ?_
            refine ol_r (r_assign rfl) rfl ?_
            refine ol_nil (to_k0 (fun _ _ h => h) (hK54 _ _ _ _ _ ?_))
            clear hK54
            refine hQ.ret (rvs2 (rv_t rfl) (rv_t rfl)) (fun _ _ h => h) fun w hb hs hB hkd => ?_
            exact ⟨retI (pv1 hc34 phs58 hc77), hb⟩
         ·refine wp_skip' (to_k0 (fun _ _ h => h) (hK47 _ _ _ _ _ ?_))
          clear hK47
          refine wp_seq' fun K55 hK55 => ?_
          refine wp_seq' fun K56 hK56 => ?_
          refine wp_reg ?_
          refine ol_r (r_move rfl) rfl ?_
          refine ol_r (r_gtr rfl rfl) rfl ?_
          refine ol_nil (to_k0 (fun _ _ h => h) (hK56 _ _ _ _ _ ?_))
          clear hK56
          refine wp_condD rfl (fun hc81 => ?_) (fun hc81 => ?_)
          ·exfalso
           omega
          ·refine wp_skip' (to_k0 (fun _ _ h => h) (hK55 _ _ _ _ _ ?_))
           clear hK55
           refine wp_seq' fun K57 hK57 => ?_
           refine wp_seq' fun K58 hK58 => ?_
           refine wp_reg ?_
           refine ol_r (r_move rfl) rfl ?_
           refine ol_nil (to_k0 (fun _ _ h => h) (hK58 _ _ _ _ _ ?_))
           clear hK58
           refine wp_condD rfl (fun hc82 => ?_) (fun hc82 => ?_)
           ·refine wp_seq' fun K59 hK59 => ?_
            refine wp_reg ?_
            refine ol_r (r_move rfl) rfl ?_
            refine ol_r (r_conv (k2 := .i64) rfl (by kernel_rfl) (by kernel_rfl) (IntWalk.i64_in _ (by omega))) rfl ?_
            refine ol_r (r_neg rfl (by omega)) rfl ?_
            refine ol_r (r_assign rfl) rfl ?_
            refine ol_r (r_assign rfl) rfl ?_
            refine ol_nil (to_k0 (fun _ _ h => h) (hK59 _ _ _ _ _ ?_))
            clear hK59
            refine hQ.ret (rvs2 (rv_t rfl) (rv_t rfl)) (fun _ _ h => h) fun w hb hs hB hkd => ?_
            exfalso
            omega
           ·refine wp_skip' (to_k0 (fun _ _ h => h) (hK57 _ _ _ _ _ ?_))
            clear hK57
            refine wp_seq' fun K60 hK60 => ?_
            refine wp_reg ?_
            refine ol_r (r_move rfl) rfl ?_
            refine ol_r (r_conv (k2 := .i64) rfl (by kernel_rfl) (by kernel_rfl) (IntWalk.i64_in _ (by omega))) rfl ?_
            refine ol_r (r_assign rfl) rfl ?_
            refine ol_r (r_assign rfl) rfl ?_
            refine ol_nil (to_k0 (fun _ _ h => h) (hK60 _ _ _ _ _ ?_))
            clear hK60
            refine hQ.ret (rvs2 (rv_t rfl) (rv_t rfl)) (fun _ _ h => h) fun w hb hs hB hkd => ?_
            exact ⟨retI (pv2 hc34 phs58 hc77), hb⟩
        ·have phs62 := hs62; try simp only [decide_eq_true_eq, decide_eq_false_iff_not, Bool.not_eq_true', Bool.not_eq_false', Bool.not_true, Bool.not_false] at phs62
         refine ql_s rfl rfl hs62 rfl ?_
         refine ql_s rfl rfl hs62 rfl ?_
         refine ql_s rfl rfl hs62 rfl ?_
         refine ql_s rfl rfl hs62 rfl ?_
         refine ql_s rfl rfl hs62 rfl ?_
         refine ql_s rfl rfl hs62 rfl ?_
         refine ql_s rfl rfl hs62 rfl ?_
         refine ql_s rfl rfl hs62 rfl ?_
         refine ql_s rfl rfl hs62 rfl ?_
         refine ql_s rfl rfl hs62 rfl ?_
         refine ql_s rfl rfl hs62 rfl ?_
         refine ql_s rfl rfl hs62 rfl ?_
         refine ql_s rfl rfl hs62 rfl ?_
         refine ql_s rfl rfl hs62 rfl ?_
         refine ql_r (r_pickF rfl hs62 rfl) rfl ?_
         refine ql_nil (to_k0 (fun _ _ h => h) (hK48 _ _ _ _ _ ?_))
         clear hK48
         refine wp_condF rfl ?_
         refine wp_skip' (to_k0 (fun _ _ h => h) (hK47 _ _ _ _ _ ?_))
         clear hK47
         refine wp_seq' fun K61 hK61 => ?_
         refine wp_seq' fun K62 hK62 => ?_
         refine wp_reg ?_
         refine ol_r (r_move rfl) rfl ?_
         refine ol_r (r_gtr rfl rfl) rfl ?_
         refine ol_nil (to_k0 (fun _ _ h => h) (hK62 _ _ _ _ _ ?_))
         clear hK62
         refine wp_condD rfl (fun hc81 => ?_) (fun hc81 => ?_)
         ·exfalso
          omega
         ·refine wp_skip' (to_k0 (fun _ _ h => h) (hK61 _ _ _ _ _ ?_))
          clear hK61
          refine wp_seq' fun K63 hK63 => ?_
          refine wp_seq' fun K64 hK64 => ?_
          refine wp_reg ?_
          refine ol_r (r_move rfl) rfl ?_
          refine ol_nil (to_k0 (fun _ _ h => h) (hK64 _ _ _ _ _ ?_))
          clear hK64
          refine wp_condD rfl (fun hc82 => ?_) (fun hc82 => ?_)
          ·refine wp_seq' fun K65 hK65 => ?_
           refine wp_reg ?_
           refine ol_r (r_move rfl) rfl ?_
           refine ol_r (r_conv (k2 := .i64) rfl (by kernel_rfl) (by kernel_rfl) (IntWalk.i64_in _ (by omega))) rfl ?_
           refine ol_r (r_neg rfl (by omega)) rfl ?_
           refine ol_r (r_assign rfl) rfl ?_
           refine ol_r (r_assign rfl) rfl ?_
           refine ol_nil (to_k0 (fun _ _ h => h) (hK65 _ _ _ _ _ ?_))
           clear hK65
           refine hQ.ret (rvs2 (rv_t rfl) (rv_t rfl)) (fun _ _ h => h) fun w hb hs hB hkd => ?_
           exfalso
           omega
          ·refine wp_skip' (to_k0 (fun _ _ h => h) (hK63 _ _ _ _ _ ?_))
           clear hK63
           refine wp_seq' fun K66 hK66 => ?_
           refine wp_reg ?_
           refine ol_r (r_move rfl) rfl ?_
           refine ol_r (r_conv (k2 := .i64) rfl (by kernel_rfl) (by kernel_rfl) (IntWalk.i64_in _ (by omega))) rfl ?_
           refine ol_r (r_assign rfl) rfl ?_
           refine ol_r (r_assign rfl) rfl ?_
           refine ol_nil (to_k0 (fun _ _ h => h) (hK66 _ _ _ _ _ ?_))
           clear hK66
           refine hQ.ret (rvs2 (rv_t rfl) (rv_t rfl)) (fun _ _ h => h) fun w hb hs hB hkd => ?_
           exfalso
           omega
       ·have phs58 := hs58; try simp only [decide_eq_true_eq, decide_eq_false_iff_not, Bool.not_eq_true', Bool.not_eq_false', Bool.not_true, Bool.not_false] at phs58
        refine ql_s rfl rfl hs58 rfl ?_
        refine ql_s rfl rfl hs58 rfl ?_
        refine ql_r (r_pickF rfl hs58 rfl) rfl ?_
        refine ql_r (r_move rfl) rfl ?_
        refine ql_s rfl rfl rfl rfl ?_
        refine ql_s rfl rfl rfl rfl ?_
        refine ql_s rfl rfl rfl rfl ?_
        refine ql_s rfl rfl rfl rfl ?_
        refine ql_s rfl rfl rfl rfl ?_
        refine ql_s rfl rfl rfl rfl ?_
        refine ql_s rfl rfl rfl rfl ?_
        refine ql_s rfl rfl rfl rfl ?_
        refine ql_s rfl rfl rfl rfl ?_
        refine ql_s rfl rfl rfl rfl ?_
        refine ql_s rfl rfl rfl rfl ?_
        refine ql_s rfl rfl rfl rfl ?_
        refine ql_s rfl rfl rfl rfl ?_
        refine ql_s rfl rfl rfl rfl ?_
        refine ql_r (r_pickF rfl rfl rfl) rfl ?_
        refine ql_nil (to_k0 (fun _ _ h => h) (hK48 _ _ _ _ _ ?_))
        clear hK48
        refine wp_condF rfl ?_
        refine wp_skip' (to_k0 (fun _ _ h => h) (hK47 _ _ _ _ _ ?_))
        clear hK47
        refine wp_seq' fun K67 hK67 => ?_
        refine wp_seq' fun K68 hK68 => ?_
        refine wp_reg ?_
        refine ol_r (r_move rfl) rfl ?_
        refine ol_r (r_gtr rfl rfl) rfl ?_
        refine ol_nil (to_k0 (fun _ _ h => h) (hK68 _ _ _ _ _ ?_))
        clear hK68
        refine wp_condD rfl (fun hc81 => ?_) (fun hc81 => ?_)
        ·exfalso
         omega
        ·refine wp_skip' (to_k0 (fun _ _ h => h) (hK67 _ _ _ _ _ ?_))
         clear hK67
         refine wp_seq' fun K69 hK69 => ?_
         refine wp_seq' fun K70 hK70 => ?_
         refine wp_reg ?_
         refine ol_r (r_move rfl) rfl ?_
         refine ol_nil (to_k0 (fun _ _ h => h) (hK70 _ _ _ _ _ ?_))
         clear hK70
         refine wp_condD rfl (fun hc82 => ?_) (fun hc82 => ?_)
         ·refine wp_seq' fun K71 hK71 => ?_
          refine wp_reg ?_
          refine ol_r (r_move rfl) rfl ?_
          refine ol_r (r_conv (k2 := .i64) rfl (by kernel_rfl) (by kernel_rfl) (IntWalk.i64_in _ (by omega))) rfl ?_
          refine ol_r (r_neg rfl (by omega)) rfl ?_
          refine ol_r (r_assign rfl) rfl ?_
          refine ol_r (r_assign rfl) rfl ?_
          refine ol_nil (to_k0 (fun _ _ h => h) (hK71 _ _ _ _ _ ?_))
          clear hK71
          refine hQ.ret (rvs2 (rv_t rfl) (rv_t rfl)) (fun _ _ h => h) fun w hb hs hB hkd => ?_
          exfalso
          omega
         ·refine wp_skip' (to_k0 (fun _ _ h => h) (hK69 _ _ _ _ _ ?_))
          clear hK69
          refine wp_seq' fun K72 hK72 => ?_
          refine wp_reg ?_
          refine ol_r (r_move rfl) rfl ?_
          refine ol_r (r_conv (k2 := .i64) rfl (by kernel_rfl) (by kernel_rfl) (IntWalk.i64_in _ (by omega))) rfl ?_
          refine ol_r (r_assign rfl) rfl ?_
          refine ol_r (r_assign rfl) rfl ?_
          refine ol_nil (to_k0 (fun _ _ h => h) (hK72 _ _ _ _ _ ?_))
          clear hK72
          refine hQ.ret (rvs2 (rv_t rfl) (rv_t rfl)) (fun _ _ h => h) fun w hb hs hB hkd => ?_
          exact ⟨retI (pv3 hc34 phs58), hb⟩
end Go.Proofs.Ytfbmkepogcimlaa

/-
  Where somebody was at a second: program and reference.
-/



namespace Go.Proofs.Ytfbmkepogcimlaa
open Go Go.RowKit Hx
set_option linter.unusedVariables false
set_option linter.unusedSimpArgs false
set_option maxRecDepth 8000
theorem cmp_isNaNi (x : Int) (w : World) : Calls Try.prog 106 #[.int .i64 x] w fun e w' => e = .returned (.bool false) ∧ Below w.heap.size w w' := by
  refine enterQ (N := 6) (C := fun _ => True) (H := []) (B := w.heap.size) (args := [_]) Try.func106 rfl rfl rfl (Nat.le_refl _) (Sat.nil _ _) fun Q hQ => ?_
  refine wp_seq' fun K1 hK1 => ?_
  refine wp_reg ?_
  refine ol_r (r_assign rfl) rfl ?_
  refine ol_nil (to_k0 (fun _ _ h => h) (hK1 _ _ _ _ _ ?_))
  clear hK1
  refine wp_seq' fun K2 hK2 => ?_
  refine wp_reg ?_
  refine ol_r (r_move rfl) rfl ?_
  refine ol_r (r_move rfl) rfl ?_
  refine ol_r (r_neq rfl rfl) rfl ?_
  refine ol_r (r_assign rfl) rfl ?_
  refine ol_nil (to_k0 (fun _ _ h => h) (hK2 _ _ _ _ _ ?_))
  clear hK2
  refine hQ.ret (rvs1 (rv_t rfl)) (fun _ _ h => h) fun w hb hs hB hkd => ?_
  exact ⟨by simp, hb⟩
theorem cmpI_lt {x y : Int} : cmpI x y < 0 ↔ x < y := by
  unfold cmpI
  by_cases h : x < y
  · rw [if_pos h]; omega
  · rw [if_neg h]; split <;> omega
theorem cmpI_eq {x y : Int} : cmpI x y = 0 ↔ x = y := by
  unfold cmpI
  by_cases h : x < y
  · rw [if_pos h]; omega
  · rw [if_neg h]; split <;> omega
theorem cmp_Comparei (x y : Int) (w : World) : Calls Try.prog 75 #[.int .i64 x, .int .i64 y] w fun e w' => e = .returned (.int .i64 (cmpI x y)) ∧ Below w.heap.size w w' := by
  refine enterQ (N := 20) (C := fun _ => True) (H := []) (B := w.heap.size) (args := [_, _]) Try.func75 rfl rfl rfl (Nat.le_refl _) (Sat.nil _ _) fun Q hQ => ?_
  refine wp_seq' fun K1 hK1 => ?_
  refine wp_reg ?_
  refine ol_r (r_assign rfl) rfl ?_
  refine ol_nil (to_k0 (fun _ _ h => h) (hK1 _ _ _ _ _ ?_))
  clear hK1
  refine wp_seq' fun K2 hK2 => ?_
  refine wp_reg ?_
  refine ol_r (r_move rfl) rfl ?_
  refine ol_call rfl rfl cb106 rfl (fun w1 hb1 hs1 hB1 => Calls.mono (cmp_isNaNi _ _) ?_)
  rintro e w2 ⟨rfl, hb2⟩
  refine After.below rfl hb1 hs1 hB1 hb2 ?_
  clear hb2 hB1 hs1 hb1 w2 w1
  refine ol_r (r_assign rfl) rfl ?_
  refine ol_nil (to_k0 (fun _ _ h => h) (hK2 _ _ _ _ _ ?_))
  clear hK2
  refine wp_seq' fun K3 hK3 => ?_
  refine wp_reg ?_
  refine ol_r (r_move rfl) rfl ?_
  refine ol_call rfl rfl cb106 rfl (fun w1 hb1 hs1 hB1 => Calls.mono (cmp_isNaNi _ _) ?_)
  rintro e w2 ⟨rfl, hb2⟩
  refine After.below rfl hb1 hs1 hB1 hb2 ?_
  clear hb2 hB1 hs1 hb1 w2 w1
  refine ol_r (r_assign rfl) rfl ?_
  refine ol_nil (to_k0 (fun _ _ h => h) (hK3 _ _ _ _ _ ?_))
  clear hK3
  refine wp_seq' fun K4 hK4 => ?_
  refine wp_seq' fun K5 hK5 => ?_
  refine wp_reg ?_
  refine ol_r (r_move rfl) rfl ?_
  refine ol_nil (to_k0 (fun _ _ h => h) (hK5 _ _ _ _ _ ?_))
  clear hK5
  refine wp_cond' rfl (fun hc11 => ?_) (fun hc11 => ?_)
  ·refine wp_seq' fun K6 hK6 => ?_
   refine wp_seq' fun K7 hK7 => ?_
   refine wp_reg ?_
   refine ol_r (r_move rfl) rfl ?_
   refine ol_nil (to_k0 (fun _ _ h => h) (hK7 _ _ _ _ _ ?_))
   clear hK7
   refine wp_cond' rfl (fun hc12 => ?_) (fun hc12 => ?_)
   ·refine wp_seq' fun K8 hK8 => ?_
    refine wp_reg ?_
    refine ol_r (r_assign rfl) rfl ?_
    refine ol_nil (to_k0 (fun _ _ h => h) (hK8 _ _ _ _ _ ?_))
    clear hK8
    refine hQ.ret (rvs1 (rv_t rfl)) (fun _ _ h => h) fun w hb hs hB hkd => ?_
    first
      | (exfalso; simp_all; done)
   ·refine wp_skip' (to_k0 (fun _ _ h => h) (hK6 _ _ _ _ _ ?_))
    clear hK6
    refine wp_seq' fun K9 hK9 => ?_
    refine wp_reg ?_
    refine ol_r (r_assign rfl) rfl ?_
    refine ol_nil (to_k0 (fun _ _ h => h) (hK9 _ _ _ _ _ ?_))
    clear hK9
    refine hQ.ret (rvs1 (rv_t rfl)) (fun _ _ h => h) fun w hb hs hB hkd => ?_
    first
      | (exfalso; simp_all; done)
  ·refine wp_skip' (to_k0 (fun _ _ h => h) (hK4 _ _ _ _ _ ?_))
   clear hK4
   refine wp_seq' fun K10 hK10 => ?_
   refine wp_seq' fun K11 hK11 => ?_
   refine wp_reg ?_
   refine ol_r (r_move rfl) rfl ?_
   refine ol_nil (to_k0 (fun _ _ h => h) (hK11 _ _ _ _ _ ?_))
   clear hK11
   refine wp_cond' rfl (fun hc13 => ?_) (fun hc13 => ?_)
   ·refine wp_seq' fun K12 hK12 => ?_
    refine wp_reg ?_
    refine ol_r (r_assign rfl) rfl ?_
    refine ol_nil (to_k0 (fun _ _ h => h) (hK12 _ _ _ _ _ ?_))
    clear hK12
    refine hQ.ret (rvs1 (rv_t rfl)) (fun _ _ h => h) fun w hb hs hB hkd => ?_
    first
      | (exfalso; simp_all; done)
   ·refine wp_skip' (to_k0 (fun _ _ h => h) (hK10 _ _ _ _ _ ?_))
    clear hK10
    refine wp_seq' fun K13 hK13 => ?_
    refine wp_seq' fun K14 hK14 => ?_
    refine wp_reg ?_
    refine ol_r (r_move rfl) rfl ?_
    refine ol_r (r_move rfl) rfl ?_
    refine ol_r (r_lss rfl rfl) rfl ?_
    refine ol_nil (to_k0 (fun _ _ h => h) (hK14 _ _ _ _ _ ?_))
    clear hK14
    refine wp_condD rfl (fun hc16 => ?_) (fun hc16 => ?_)
    ·refine wp_seq' fun K15 hK15 => ?_
     refine wp_reg ?_
     refine ol_r (r_assign rfl) rfl ?_
     refine ol_nil (to_k0 (fun _ _ h => h) (hK15 _ _ _ _ _ ?_))
     clear hK15
     refine hQ.ret (rvs1 (rv_t rfl)) (fun _ _ h => h) fun w hb hs hB hkd => ?_
     first
       | exact ⟨by unfold cmpI; rw [if_pos (by omega)], hb⟩
    ·refine wp_skip' (to_k0 (fun _ _ h => h) (hK13 _ _ _ _ _ ?_))
     clear hK13
     refine wp_seq' fun K16 hK16 => ?_
     refine wp_seq' fun K17 hK17 => ?_
     refine wp_reg ?_
     refine ol_r (r_move rfl) rfl ?_
     refine ol_r (r_move rfl) rfl ?_
     refine ol_r (r_gtr rfl rfl) rfl ?_
     refine ol_nil (to_k0 (fun _ _ h => h) (hK17 _ _ _ _ _ ?_))
     clear hK17
     refine wp_condD rfl (fun hc19 => ?_) (fun hc19 => ?_)
     ·refine wp_seq' fun K18 hK18 => ?_
      refine wp_reg ?_
      refine ol_r (r_assign rfl) rfl ?_
      refine ol_nil (to_k0 (fun _ _ h => h) (hK18 _ _ _ _ _ ?_))
      clear hK18
      refine hQ.ret (rvs1 (rv_t rfl)) (fun _ _ h => h) fun w hb hs hB hkd => ?_
      first
        | exact ⟨by unfold cmpI; rw [if_neg (by omega), if_pos (by omega)], hb⟩
     ·refine wp_skip' (to_k0 (fun _ _ h => h) (hK16 _ _ _ _ _ ?_))
      clear hK16
      refine wp_seq' fun K19 hK19 => ?_
      refine wp_reg ?_
      refine ol_r (r_assign rfl) rfl ?_
      refine ol_nil (to_k0 (fun _ _ h => h) (hK19 _ _ _ _ _ ?_))
      clear hK19
      refine hQ.ret (rvs1 (rv_t rfl)) (fun _ _ h => h) fun w hb hs hB hkd => ?_
      first
        | exact ⟨by unfold cmpI; rw [if_neg (by omega), if_neg (by omega)], hb⟩
theorem smp_cmp (x : SmpR) (t : Int) (w : World) : Calls Try.prog 74 #[encSmp.val x, .int .i64 t] w fun e w' => e = .returned (.int .i64 (cmpI x.at_ t)) ∧ Below w.heap.size w w' := by
  refine enterQ (N := 9) (C := fun _ => True) (H := []) (B := w.heap.size) (args := [_, _]) Try.func74 rfl rfl rfl (Nat.le_refl _) (Sat.nil _ _) fun Q hQ => ?_
  refine wp_seq' fun K1 hK1 => ?_
  refine wp_reg ?_
  refine ol_box 2 rfl rfl rfl fun b2 => ?_
  refine ol_r (r_assign rfl) rfl ?_
  refine ol_nil (to_k0 (fun _ _ h => h) (hK1 _ _ _ _ _ ?_))
  clear hK1
  refine wp_seq' fun K2 hK2 => ?_
  refine wp_reg ?_
  refine ol_r (r_fa (o' := 0) rfl fl70_0 rfl) rfl ?_
  refine ol_r (r_ld (id := 2) rfl rfl rfl sc3) rfl ?_
  refine ol_r (r_move rfl) rfl ?_
  refine ol_call rfl rfl cb75 rfl (fun w1 hb1 hs1 hB1 => Calls.mono (cmp_Comparei _ _ _) ?_)
  rintro e w2 ⟨rfl, hb2⟩
  refine After.below rfl hb1 hs1 hB1 hb2 ?_
  clear hb2 hB1 hs1 hb1 w2 w1
  refine ol_r (r_assign rfl) rfl ?_
  refine ol_nil (to_k0 (fun _ _ h => h) (hK2 _ _ _ _ _ ?_))
  clear hK2
  refine hQ.ret (rvs1 (rv_t rfl)) (fun _ _ h => h) fun w hb hs hB hkd => ?_
  exact ⟨rfl, hb⟩
structure WPlace (xs : List SmpR) (t : Int) (k : Nat) : Prop where
  le : k ≤ xs.length
  low : k = 0 ∨ ∃ y, xs[k - 1]? = some y ∧ y.at_ < t
  high : k = xs.length ∨ ∃ y, xs[k]? = some y ∧ t ≤ y.at_
theorem binarySearch_smp (a : Option Addr) (n cap : Nat) (xs : List SmpR) (t : Int) (w : World) (hl : Rd encSmp w.heap.size w a n cap xs) (hn1 : n ≤ 1000000000000) :
    Calls Try.prog 73 #[.slice a n cap, .int .i64 t, .func (.func 74) #[] #[]] w fun e w' => ∃ (k : Nat) (ok : Bool), WPlace xs t k ∧ (ok = true ↔ ∃ y, xs[k]? = some y ∧ y.at_ = t) ∧ e = .returned (.tuple #[.int .i64 k, .bool ok]) ∧ Below w.heap.size w w' := by
  have hn := hl.len
  have hfit := hl.fit
  subst hn
  refine enterQ (N := 49) (C := fun _ => True) (H := []) (B := w.heap.size) (args := [_, _, _]) Try.func73 rfl rfl rfl (Nat.le_refl _) (Sat.nil _ _) fun Q hQ => ?_
  refine wp_seq' fun K1 hK1 => ?_
  refine wp_reg ?_
  refine ol_r (r_assign rfl) rfl ?_
  refine ol_r (r_assign rfl) rfl ?_
  refine ol_nil (to_k0 (fun _ _ h => h) (hK1 _ _ _ _ _ ?_))
  clear hK1
  refine wp_seq' fun K2 hK2 => ?_
  refine wp_reg ?_
  refine ol_r (r_move rfl) rfl ?_
  refine ol_r (r_len rfl sl53) rfl ?_
  refine ol_r (r_assign rfl) rfl ?_
  refine ol_nil (to_k0 (fun _ _ h => h) (hK2 _ _ _ _ _ ?_))
  clear hK2
  refine wp_seq' fun K3 hK3 => ?_
  refine wp_reg ?_
  refine ol_r (r_move rfl) rfl ?_
  refine ol_r (r_assign rfl) rfl ?_
  refine ol_r (r_assign rfl) rfl ?_
  refine ol_nil (to_k0 (fun _ _ h => h) (hK3 _ _ _ _ _ ?_))
  clear hK3
  refine wp_seq' fun K4 hK4 => ?_
  refine wp_block' ?_
  apply wp_loopM (σ := Int × Int) (fun s => 0 ≤ s.1 ∧ s.1 ≤ s.2 ∧ s.2 ≤ xs.length ∧ (s.1 = 0 ∨ ∃ y, xs[(s.1 - 1).toNat]? = some y ∧ y.at_ < t) ∧ (s.2 = xs.length ∨ ∃ y, xs[s.2.toNat]? = some y ∧ t ≤ y.at_)) (fun s => [(9, .int .i64 s.1), (10, .int .i64 s.2)]) [(0, _), (1, _), (2, _), (6, _), (7, _), (8, _)] (fun s => []) [] (fun s => (s.2 - s.1).toNat) ((0, xs.length))
  ·try dsimp only
   exact ⟨by omega, by omega, by omega, .inl rfl, .inl rfl⟩
  ·exact (sub_cons rfl (sub_cons rfl sub_nil))
  ·exact (sub_cons rfl (sub_cons rfl (sub_cons rfl (sub_cons rfl (sub_cons rfl (sub_cons rfl sub_nil))))))
  ·exact subH_nil
  ·exact subH_nil
  ·rintro ⟨i, j⟩ ⟨h1, h2, h3, h4, h5⟩
   dsimp only at h1 h2 h3 h4 h5 ⊢
   intro K5 hK5
   refine wp_seq' fun K6 hK6 => ?_
   refine wp_seq' fun K7 hK7 => ?_
   refine wp_reg ?_
   refine ol_r (r_move rfl) rfl ?_
   refine ol_r (r_move rfl) rfl ?_
   refine ol_r (r_lss rfl rfl) rfl ?_
   refine ol_nil (to_k0 (fun _ _ h => h) (hK7 _ _ _ _ _ ?_))
   clear hK7
   refine wp_condD rfl (fun hc17 => ?_) (fun hc17 => ?_)
   ·refine wp_skip' (to_k0 (fun _ _ h => h) (hK6 _ _ _ _ _ ?_))
    clear hK6
    refine wp_block' ?_
    refine wp_seq' fun K8 hK8 => ?_
    refine wp_reg ?_
    refine ol_r (r_move rfl) rfl ?_
    refine ol_r (r_move rfl) rfl ?_
    refine ol_r (r_add rfl rfl (by omega)) rfl ?_
    refine ol_r (r_conv (k2 := .u64) rfl (by kernel_rfl) (by kernel_rfl) (wrap_u64 (by omega))) rfl ?_
    refine ol_r (r_shr1 rfl rfl) rfl ?_
    refine ol_r (r_conv (k2 := .i64) rfl (by kernel_rfl) (by kernel_rfl) (IntWalk.i64_in _ (by omega))) rfl ?_
    refine ol_r (r_assign rfl) rfl ?_
    refine ol_nil (to_k0 (fun _ _ h => h) (hK8 _ _ _ _ _ ?_))
    clear hK8
    refine wp_seq' fun K9 hK9 => ?_
    refine wp_reg ?_
    refine ol_r (r_move rfl) rfl ?_
    refine ol_r (r_move rfl) rfl ?_
    refine ol_r (r_move rfl) rfl ?_
    refine ol_ixr hl rfl rfl sl53 (by omega) rfl fun x27 hx27 => ?_
    try simp only [Int.toNat_natCast] at hx27
    refine ol_r (r_ldw rfl (fun w1 hb1 hs1 hB1 => Rd.loads hl ty70 hx27 hb1)) rfl ?_
    refine ol_r (r_move rfl) rfl ?_
    refine ol_call rfl rfl cb74 rfl (fun w1 hb1 hs1 hB1 => Calls.mono (smp_cmp _ _ _) ?_)
    rintro e w2 ⟨rfl, hb2⟩
    refine After.below rfl hb1 hs1 hB1 hb2 ?_
    clear hb2 hB1 hs1 hb1 w2 w1
    refine ol_r (r_lss rfl rfl) rfl ?_
    refine ol_nil (to_k0 (fun _ _ h => h) (hK9 _ _ _ _ _ ?_))
    clear hK9
    refine wp_condD rfl (fun hc31 => ?_) (fun hc31 => ?_)
    ·refine wp_reg ?_
     refine ol_r (r_move rfl) rfl ?_
     refine ol_r (r_add rfl rfl (by omega)) rfl ?_
     refine ol_r (r_assign rfl) rfl ?_
     refine ol_nil (to_k0 (fun _ _ h => h) (hK5 ((_, _)) _ _ ?_ ?_ (sub_cons rfl (sub_cons rfl sub_nil)) (sub_cons rfl (sub_cons rfl (sub_cons rfl (sub_cons rfl (sub_cons rfl (sub_cons rfl sub_nil)))))) (by exact subH_nil) subH_nil))
     ·try dsimp only
      first
        | exact ⟨by omega, by omega, by omega, .inr ⟨_, by rw [Int.add_sub_cancel]; exact hx27, cmpI_lt.1 hc31⟩, h5⟩
     ·try dsimp only
      omega
    ·refine wp_reg ?_
     refine ol_r (r_move rfl) rfl ?_
     refine ol_r (r_assign rfl) rfl ?_
     refine ol_nil (to_k0 (fun _ _ h => h) (hK5 ((_, _)) _ _ ?_ ?_ (sub_cons rfl (sub_cons rfl sub_nil)) (sub_cons rfl (sub_cons rfl (sub_cons rfl (sub_cons rfl (sub_cons rfl (sub_cons rfl sub_nil)))))) (by exact subH_nil) subH_nil))
     ·try dsimp only
      first
        | exact ⟨by omega, by omega, by omega, h4, .inr ⟨_, hx27, Int.not_lt.1 (fun h => hc31 (cmpI_lt.2 h))⟩⟩
     ·try dsimp only
      omega
   ·refine wp_exit' (to_k0 (fun _ _ h => h) (hK4 _ _ _ _ _ ?_))
    clear hK4
    refine wp_seq' fun K10 hK10 => ?_
    refine wp_reg ?_
    have hij : i = j := by omega
    subst hij
    obtain ⟨k, rfl⟩ := Int.eq_ofNat_of_zero_le h1
    have hPl : WPlace xs t k := ⟨by omega, by
        rcases h4 with h | ⟨y, hy, hyt⟩
        · exact .inl (by omega)
        · by_cases hk0 : k = 0
          · exact .inl hk0
          · exact .inr ⟨y, by rw [← hy]; congr 1; omega, hyt⟩, by
        rcases h5 with h | ⟨y, hy, hyt⟩
        · exact .inl (by omega)
        · exact .inr ⟨y, by simpa using hy, hyt⟩⟩
    refine ol_r (r_move rfl) rfl ?_
    refine ol_r (r_move rfl) rfl ?_
    refine ol_r (r_move rfl) rfl ?_
    refine ol_r (r_lss rfl rfl) rfl ?_
    refine ol_r (r_move rfl) rfl ?_
    refine ol_split (d := 39) rfl (fun hs39 => ?_) (fun hs39 => ?_)
    ·have phs39 := hs39; try simp only [decide_eq_true_eq, decide_eq_false_iff_not, Bool.not_eq_true', Bool.not_eq_false', Bool.not_true, Bool.not_false] at phs39
     refine ol_g rfl rfl hs39 ?_
     refine ol_r (r_move rfl) rfl ?_
     refine ol_g rfl rfl hs39 ?_
     refine ol_r (r_move rfl) rfl ?_
     refine ol_g rfl rfl hs39 ?_
     refine ol_r (r_move rfl) rfl ?_
     refine ol_g rfl rfl hs39 ?_
     refine ol_ixr hl rfl rfl sl53 (by omega) rfl fun x43 hx43 => ?_
     try simp only [Int.toNat_natCast] at hx43
     refine ol_g rfl rfl hs39 ?_
     refine ol_r (r_ldw rfl (fun w1 hb1 hs1 hB1 => Rd.loads hl ty70 hx43 hb1)) rfl ?_
     refine ol_g rfl rfl hs39 ?_
     refine ol_r (r_move rfl) rfl ?_
     refine ol_g rfl rfl hs39 ?_
     refine ol_call rfl rfl cb74 rfl (fun w1 hb1 hs1 hB1 => Calls.mono (smp_cmp _ _ _) ?_)
     rintro e w2 ⟨rfl, hb2⟩
     refine After.below rfl hb1 hs1 hB1 hb2 ?_
     clear hb2 hB1 hs1 hb1 w2 w1
     refine ol_g rfl rfl hs39 ?_
     refine ol_r (r_eql rfl rfl) rfl ?_
     refine ol_r (r_pickT rfl hs39 rfl) rfl ?_
     refine ol_r (r_assign rfl) rfl ?_
     refine ol_r (r_assign rfl) rfl ?_
     refine ol_nil (to_k0 (fun _ _ h => h) (hK10 _ _ _ _ _ ?_))
     clear hK10
     refine hQ.ret (rvs2 (rv_t rfl) (rv_t rfl)) (fun _ _ h => h) fun w hb hs hB hkd => ?_
     first
       | exact ⟨k, _, hPl, ⟨fun h => ⟨_, hx43, cmpI_eq.1 (of_decide_eq_true h)⟩, fun ⟨y, hy, hyt⟩ => (by rw [hx43] at hy; cases hy; exact decide_eq_true (cmpI_eq.2 hyt))⟩, rfl, hb⟩
    ·have phs39 := hs39; try simp only [decide_eq_true_eq, decide_eq_false_iff_not, Bool.not_eq_true', Bool.not_eq_false', Bool.not_true, Bool.not_false] at phs39
     refine ol_s rfl rfl hs39 rfl ?_
     refine ol_s rfl rfl hs39 rfl ?_
     refine ol_s rfl rfl hs39 rfl ?_
     refine ol_s rfl rfl hs39 rfl ?_
     refine ol_s rfl rfl hs39 rfl ?_
     refine ol_s rfl rfl hs39 rfl ?_
     refine ol_s rfl rfl hs39 rfl ?_
     refine ol_s rfl rfl hs39 rfl ?_
     refine ol_r (r_pickF rfl hs39 rfl) rfl ?_
     refine ol_r (r_assign rfl) rfl ?_
     refine ol_r (r_assign rfl) rfl ?_
     refine ol_nil (to_k0 (fun _ _ h => h) (hK10 _ _ _ _ _ ?_))
     clear hK10
     refine hQ.ret (rvs2 (rv_t rfl) (rv_t rfl)) (fun _ _ h => h) fun w hb hs hB hkd => ?_
     first
       | exact ⟨k, _, hPl, ⟨fun h => (by cases h), fun ⟨y, hy, _⟩ => (by have := (List.getElem?_eq_some_iff.1 hy).1; omega)⟩, rfl, hb⟩
theorem btw_args {p q n d : Int} (hn : 0 ≤ n) (hd : 1 ≤ d ∧ d ≤ 1000000) (h : n ≤ d) (hp : -100000000 ≤ p ∧ p ≤ 100000000) (hq : -100000000 ≤ q ∧ q ≤ 100000000) :
    (0 ≤ q - p → 0 ≤ (q - p) * n ∧ (q - p) * n ≤ 1000000000000000000) ∧ (q - p < 0 → 0 ≤ -(q - p) * n ∧ -(q - p) * n ≤ 1000000000000000000) ∧ -100000000 ≤ p + nearV (q - p) n d ∧ p + nearV (q - p) n d ≤ 100000000 := by
  have h1 := btw_bd (L := 100000000) hn hd.1 h hp hq
  unfold btw at h1
  refine ⟨fun h2 => ?_, fun h2 => ?_, h1.1, h1.2⟩
  · have := mul_bd (a := q - p) (b := n) h2 (show _ ≤ 200000000 by omega) hn (show _ ≤ 1000000 by omega)
    omega
  · have := mul_bd (a := -(q - p)) (b := n) (by omega) (show _ ≤ 200000000 by omega) hn (show _ ≤ 1000000 by omega)
    omega
theorem track_between (p q n d : Int) (w : World) (hn : 0 ≤ n) (hd : 1 ≤ d ∧ d ≤ 1000000) (h : n ≤ d) (hp : -100000000 ≤ p ∧ p ≤ 100000000) (hq : -100000000 ≤ q ∧ q ≤ 100000000) :
    Calls Try.prog 107 #[.int .i64 p, .int .i64 q, .int .i64 n, .int .i64 d] w fun e w' => e = .returned (.int .i64 (btw p q n d)) ∧ Below w.heap.size w w' := by
  obtain ⟨b1, b2, b3, b4⟩ := btw_args hn hd h hp hq
  refine enterQ (N := 23) (C := fun _ => True) (H := []) (B := w.heap.size) (args := [_, _, _, _]) Try.func107 rfl rfl rfl (Nat.le_refl _) (Sat.nil _ _) fun Q hQ => ?_
  refine wp_seq' fun K1 hK1 => ?_
  refine wp_reg ?_
  refine ol_r (r_assign rfl) rfl ?_
  refine ol_nil (to_k0 (fun _ _ h => h) (hK1 _ _ _ _ _ ?_))
  clear hK1
  refine wp_seq' fun K2 hK2 => ?_
  refine wp_reg ?_
  refine ol_r (r_move rfl) rfl ?_
  refine ol_r (r_move rfl) rfl ?_
  refine ol_r (r_sub rfl rfl (by omega)) rfl ?_
  refine ol_r (r_move rfl) rfl ?_
  refine ol_r (r_move rfl) rfl ?_
  refine ol_call rfl rfl cb64 rfl (fun w1 hb1 hs1 hB1 => Calls.mono (quant_ScaleNear (q - p) n d _ (by omega) (by omega) (by omega) b1 b2) ?_)
  rintro e w2 ⟨rfl, hb2⟩
  refine After.below rfl hb1 hs1 hB1 hb2 ?_
  clear hb2 hB1 hs1 hb1 w2 w1
  refine ol_r (r_move rfl) rfl ?_
  refine ol_r (r_extract rfl rfl) rfl ?_
  refine ol_r (r_extract rfl rfl) rfl ?_
  refine ol_r (r_assign rfl) rfl ?_
  refine ol_r (r_assign rfl) rfl ?_
  refine ol_nil (to_k0 (fun _ _ h => h) (hK2 _ _ _ _ _ ?_))
  clear hK2
  refine wp_seq' fun K3 hK3 => ?_
  refine wp_reg ?_
  refine ol_r (r_move rfl) rfl ?_
  refine ol_r (r_move rfl) rfl ?_
  refine ol_r (r_add rfl rfl (by omega)) rfl ?_
  refine ol_r (r_assign rfl) rfl ?_
  refine ol_nil (to_k0 (fun _ _ h => h) (hK3 _ _ _ _ _ ?_))
  clear hK3
  refine hQ.ret (rvs1 (rv_t rfl)) (fun _ _ h => h) fun w hb hs hB hkd => ?_
  exact ⟨rfl, hb⟩
/-- Two samples of which one is before the other, in their ranges. -/
structure PairOk (p q : SmpR) (t : Int) : Prop where
  lo : 0 ≤ p.at_ ∧ p.at_ ≤ t ∧ t ≤ q.at_ ∧ p.at_ < q.at_ ∧ q.at_ ≤ 1000000
  px : -100000000 ≤ p.x ∧ p.x ≤ 100000000
  py : -100000000 ≤ p.y ∧ p.y ≤ 100000000
  pz : -100000000 ≤ p.z ∧ p.z ≤ 100000000
  qx : -100000000 ≤ q.x ∧ q.x ≤ 100000000
  qy : -100000000 ≤ q.y ∧ q.y ≤ 100000000
  qz : -100000000 ≤ q.z ∧ q.z ≤ 100000000
theorem pairOk {st : Int} {ss : List SmpR} (h : SmpOk st ss) {i j : Nat} {p q : SmpR} {t : Int} (hp : ss[i]? = some p) (hq : ss[j]? = some q) (hpt : p.at_ ≤ t) (htq : t ≤ q.at_) (hlt : p.at_ < q.at_) : PairOk p q t := by
  have h1 := h.bd p (List.mem_of_getElem? hp)
  have h2 := h.bd q (List.mem_of_getElem? hq)
  exact ⟨by omega, h1.2.2.2.1, h1.2.2.2.2.1, by omega, h2.2.2.2.1, h2.2.2.2.2.1, by omega⟩
theorem track_amid (p q : SmpR) (t : Int) (w : World) (h : PairOk p q t) : Calls Try.prog 76 #[.agg #[.int .i64 p.at_, .int .i64 p.x, .int .i64 p.y, .int .i64 p.z, .int .i64 p.pulse, .int .i64 p.power, .int .i64 p.steps], .agg #[.int .i64 q.at_, .int .i64 q.x, .int .i64 q.y, .int .i64 q.z, .int .i64 q.pulse, .int .i64 q.power, .int .i64 q.steps], .int .i64 t] w fun e w' => e = .returned (encSmp.val (amidV p q t)) ∧ Below w.heap.size w w' := by
  have h0 := h.lo
  refine enterQ (N := 47) (C := fun _ => True) (H := []) (B := w.heap.size) (args := [_, _, _]) Try.func76 rfl rfl rfl (Nat.le_refl _) (Sat.nil _ _) fun Q hQ => ?_
  refine wp_seq' fun K1 hK1 => ?_
  refine wp_reg ?_
  refine ol_box 3 rfl rfl rfl fun b3 => ?_
  refine ol_box 4 rfl rfl rfl fun b4 => ?_
  refine ol_alloc 6 z70 rfl fun b6 => ?_
  refine ol_nil (to_k0 (fun _ _ h => h) (hK1 _ _ _ _ _ ?_))
  clear hK1
  refine wp_seq' fun K2 hK2 => ?_
  refine wp_regq (by kernel_rfl) (by kernel_rfl) ?_
  refine ql_r (r_move rfl) rfl ?_
  refine ql_r (r_fa (o' := 0) rfl fl70_0 rfl) rfl ?_
  refine ql_r (r_ld (id := 3) rfl rfl rfl sc3) rfl ?_
  refine ql_r (r_sub rfl rfl (by omega)) rfl ?_
  refine ql_r (r_fa (o' := 0) rfl fl70_0 rfl) rfl ?_
  refine ql_r (r_ld (id := 4) rfl rfl rfl sc3) rfl ?_
  refine ql_r (r_fa (o' := 0) rfl fl70_0 rfl) rfl ?_
  refine ql_r (r_ld (id := 3) rfl rfl rfl sc3) rfl ?_
  refine ql_r (r_sub rfl rfl (by omega)) rfl ?_
  refine ql_r (r_assign rfl) rfl ?_
  refine ql_r (r_assign rfl) rfl ?_
  refine ql_nil (to_k0 (fun _ _ h => h) (hK2 _ _ _ _ _ ?_))
  clear hK2
  refine wp_seq' fun K3 hK3 => ?_
  refine wp_reg ?_
  refine ol_r (r_lda (id := 3) (n := 7) rfl rfl rfl ag70) rfl ?_
  refine ol_alloc 9 z70 rfl fun b9 => ?_
  refine ol_store (id := 9) rfl rfl rfl rfl sz70 rfl rfl (by first | decide | exact Nat.zero_lt_succ _ | simp) ?_
  refine ol_nil (to_k0 (fun _ _ h => h) (hK3 _ _ _ _ _ ?_))
  clear hK3
  refine wp_seq' fun K4 hK4 => ?_
  refine wp_rega [(999, [(3, _), (4, _), (6, _)]), (23, [(9, _)])] (by kernel_rfl) ⟨.inr (subH_same rfl (subH_same rfl (subH_same rfl subH_nil))), ⟨.inr (subH_same rfl subH_nil), trivial⟩⟩ ?_
  refine aq_r 0 999 rfl (by kernel_rfl) (by kernel_rfl) (by kernel_rfl) (.head _) (by kernel_rfl) (by kernel_rfl) rfl (r_move rfl) ?_
  refine aq_r 1 999 rfl (by kernel_rfl) (by kernel_rfl) (by kernel_rfl) (.head _) (by kernel_rfl) (by kernel_rfl) rfl (r_fa (o' := 1) rfl fl70_1 rfl) ?_
  refine aq_r 2 999 rfl (by kernel_rfl) (by kernel_rfl) (by kernel_rfl) (.head _) (by kernel_rfl) (by kernel_rfl) rfl (r_ld (id := 3) rfl rfl rfl sc3) ?_
  refine aq_r 3 999 rfl (by kernel_rfl) (by kernel_rfl) (by kernel_rfl) (.head _) (by kernel_rfl) (by kernel_rfl) rfl (r_fa (o' := 1) rfl fl70_1 rfl) ?_
  refine aq_r 4 999 rfl (by kernel_rfl) (by kernel_rfl) (by kernel_rfl) (.head _) (by kernel_rfl) (by kernel_rfl) rfl (r_ld (id := 4) rfl rfl rfl sc3) ?_
  refine aq_r 5 999 rfl (by kernel_rfl) (by kernel_rfl) (by kernel_rfl) (.head _) (by kernel_rfl) (by kernel_rfl) rfl (r_move rfl) ?_
  refine aq_r 6 999 rfl (by kernel_rfl) (by kernel_rfl) (by kernel_rfl) (.head _) (by kernel_rfl) (by kernel_rfl) rfl (r_move rfl) ?_
  refine aq_r 8 999 rfl (by kernel_rfl) (by kernel_rfl) (by kernel_rfl) (.head _) (by kernel_rfl) (by kernel_rfl) rfl (r_fa (o' := 2) rfl fl70_2 rfl) ?_
  refine aq_r 9 999 rfl (by kernel_rfl) (by kernel_rfl) (by kernel_rfl) (.head _) (by kernel_rfl) (by kernel_rfl) rfl (r_ld (id := 3) rfl rfl rfl sc3) ?_
  refine aq_r 10 999 rfl (by kernel_rfl) (by kernel_rfl) (by kernel_rfl) (.head _) (by kernel_rfl) (by kernel_rfl) rfl (r_fa (o' := 2) rfl fl70_2 rfl) ?_
  refine aq_r 11 999 rfl (by kernel_rfl) (by kernel_rfl) (by kernel_rfl) (.head _) (by kernel_rfl) (by kernel_rfl) rfl (r_ld (id := 4) rfl rfl rfl sc3) ?_
  refine aq_r 12 999 rfl (by kernel_rfl) (by kernel_rfl) (by kernel_rfl) (.head _) (by kernel_rfl) (by kernel_rfl) rfl (r_move rfl) ?_
  refine aq_r 13 999 rfl (by kernel_rfl) (by kernel_rfl) (by kernel_rfl) (.head _) (by kernel_rfl) (by kernel_rfl) rfl (r_move rfl) ?_
  refine aq_r 15 999 rfl (by kernel_rfl) (by kernel_rfl) (by kernel_rfl) (.head _) (by kernel_rfl) (by kernel_rfl) rfl (r_fa (o' := 3) rfl fl70_3 rfl) ?_
  refine aq_r 16 999 rfl (by kernel_rfl) (by kernel_rfl) (by kernel_rfl) (.head _) (by kernel_rfl) (by kernel_rfl) rfl (r_ld (id := 3) rfl rfl rfl sc3) ?_
  refine aq_r 17 999 rfl (by kernel_rfl) (by kernel_rfl) (by kernel_rfl) (.head _) (by kernel_rfl) (by kernel_rfl) rfl (r_fa (o' := 3) rfl fl70_3 rfl) ?_
  refine aq_r 18 999 rfl (by kernel_rfl) (by kernel_rfl) (by kernel_rfl) (.head _) (by kernel_rfl) (by kernel_rfl) rfl (r_ld (id := 4) rfl rfl rfl sc3) ?_
  refine aq_r 19 999 rfl (by kernel_rfl) (by kernel_rfl) (by kernel_rfl) (.head _) (by kernel_rfl) (by kernel_rfl) rfl (r_move rfl) ?_
  refine aq_r 20 999 rfl (by kernel_rfl) (by kernel_rfl) (by kernel_rfl) (.head _) (by kernel_rfl) (by kernel_rfl) rfl (r_move rfl) ?_
  refine aq_r 22 999 rfl (by kernel_rfl) (by kernel_rfl) (by kernel_rfl) (.head _) (by kernel_rfl) (by kernel_rfl) rfl (r_fa (o' := 0) rfl fl70_0 rfl) ?_
  refine aq_one (i := 7) (by kernel_rfl) rfl fun K5 hK5 => ?_
  refine ol_call rfl rfl cb107 rfl (fun w1 hb1 hs1 hB1 => Calls.mono (track_between p.x q.x _ _ _ (by omega) (by omega) (by omega) h.px h.qx) ?_)
  rintro e w2 ⟨rfl, hb2⟩
  refine After.below rfl hb1 hs1 hB1 hb2 ?_
  clear hb2 hB1 hs1 hb1 w2 w1
  refine ol_nil (to_k0 (fun _ _ h => h) (hK5 _ _ ⟨.inr (by repeat' first | exact subH_nil | refine subH_same rfl ?_ | (refine subH_blk rfl (by repeat' first | exact sub_nil | refine sub_cons rfl ?_) ?_)), ⟨.inr (by repeat' first | exact subH_nil | refine subH_same rfl ?_ | (refine subH_blk rfl (by repeat' first | exact sub_nil | refine sub_cons rfl ?_) ?_)), trivial⟩⟩ ?_))
  clear hK5
  refine aq_one (i := 14) (by kernel_rfl) rfl fun K6 hK6 => ?_
  refine ol_call rfl rfl cb107 rfl (fun w1 hb1 hs1 hB1 => Calls.mono (track_between p.y q.y _ _ _ (by omega) (by omega) (by omega) h.py h.qy) ?_)
  rintro e w2 ⟨rfl, hb2⟩
  refine After.below rfl hb1 hs1 hB1 hb2 ?_
  clear hb2 hB1 hs1 hb1 w2 w1
  refine ol_nil (to_k0 (fun _ _ h => h) (hK6 _ _ ⟨.inr (by repeat' first | exact subH_nil | refine subH_same rfl ?_ | (refine subH_blk rfl (by repeat' first | exact sub_nil | refine sub_cons rfl ?_) ?_)), ⟨.inr (by repeat' first | exact subH_nil | refine subH_same rfl ?_ | (refine subH_blk rfl (by repeat' first | exact sub_nil | refine sub_cons rfl ?_) ?_)), trivial⟩⟩ ?_))
  clear hK6
  refine aq_one (i := 21) (by kernel_rfl) rfl fun K7 hK7 => ?_
  refine ol_call rfl rfl cb107 rfl (fun w1 hb1 hs1 hB1 => Calls.mono (track_between p.z q.z _ _ _ (by omega) (by omega) (by omega) h.pz h.qz) ?_)
  rintro e w2 ⟨rfl, hb2⟩
  refine After.below rfl hb1 hs1 hB1 hb2 ?_
  clear hb2 hB1 hs1 hb1 w2 w1
  refine ol_nil (to_k0 (fun _ _ h => h) (hK7 _ _ ⟨.inr (by repeat' first | exact subH_nil | refine subH_same rfl ?_ | (refine subH_blk rfl (by repeat' first | exact sub_nil | refine sub_cons rfl ?_) ?_)), ⟨.inr (by repeat' first | exact subH_nil | refine subH_same rfl ?_ | (refine subH_blk rfl (by repeat' first | exact sub_nil | refine sub_cons rfl ?_) ?_)), trivial⟩⟩ ?_))
  clear hK7
  refine aq_one (i := 23) (by kernel_rfl) rfl fun K8 hK8 => ?_
  refine ol_store (id := 9) rfl rfl rfl rfl sz3 rfl rfl (by first | decide | exact Nat.zero_lt_succ _ | simp) ?_
  refine ol_nil (to_k0 (fun _ _ h => h) (hK8 _ _ ⟨.inr (by repeat' first | exact subH_nil | refine subH_same rfl ?_ | (refine subH_blk rfl (by repeat' first | exact sub_nil | refine sub_cons rfl ?_) ?_)), ⟨.inl (by kernel_rfl), trivial⟩⟩ ?_))
  clear hK8
  refine aq_r 24 999 rfl (by kernel_rfl) (by kernel_rfl) (by kernel_rfl) (.head _) (by kernel_rfl) (by kernel_rfl) rfl (r_fa (o' := 1) rfl fl70_1 rfl) ?_
  refine aq_one (i := 25) (by kernel_rfl) rfl fun K9 hK9 => ?_
  refine ol_store (id := 9) rfl rfl rfl rfl sz3 rfl rfl (by first | decide | exact Nat.zero_lt_succ _ | simp) ?_
  refine ol_nil (to_k0 (fun _ _ h => h) (hK9 _ _ ⟨.inr (by repeat' first | exact subH_nil | refine subH_same rfl ?_ | (refine subH_blk rfl (by repeat' first | exact sub_nil | refine sub_cons rfl ?_) ?_)), ⟨.inl (by kernel_rfl), trivial⟩⟩ ?_))
  clear hK9
  refine aq_r 26 999 rfl (by kernel_rfl) (by kernel_rfl) (by kernel_rfl) (.head _) (by kernel_rfl) (by kernel_rfl) rfl (r_fa (o' := 2) rfl fl70_2 rfl) ?_
  refine aq_one (i := 27) (by kernel_rfl) rfl fun K10 hK10 => ?_
  refine ol_store (id := 9) rfl rfl rfl rfl sz3 rfl rfl (by first | decide | exact Nat.zero_lt_succ _ | simp) ?_
  refine ol_nil (to_k0 (fun _ _ h => h) (hK10 _ _ ⟨.inr (by repeat' first | exact subH_nil | refine subH_same rfl ?_ | (refine subH_blk rfl (by repeat' first | exact sub_nil | refine sub_cons rfl ?_) ?_)), ⟨.inl (by kernel_rfl), trivial⟩⟩ ?_))
  clear hK10
  refine aq_r 28 999 rfl (by kernel_rfl) (by kernel_rfl) (by kernel_rfl) (.head _) (by kernel_rfl) (by kernel_rfl) rfl (r_fa (o' := 3) rfl fl70_3 rfl) ?_
  refine aq_one (i := 29) (by kernel_rfl) rfl fun K11 hK11 => ?_
  refine ol_store (id := 9) rfl rfl rfl rfl sz3 rfl rfl (by first | decide | exact Nat.zero_lt_succ _ | simp) ?_
  refine ol_nil (to_k0 (fun _ _ h => h) (hK11 _ _ ⟨.inr (by repeat' first | exact subH_nil | refine subH_same rfl ?_ | (refine subH_blk rfl (by repeat' first | exact sub_nil | refine sub_cons rfl ?_) ?_)), ⟨.inl (by kernel_rfl), trivial⟩⟩ ?_))
  clear hK11
  refine aq_done (by kernel_rfl) ?_
  refine (to_k0 (fun _ _ h => h) (hK4 _ _ _ _ _ ?_))
  clear hK4
  refine wp_seq' fun K12 hK12 => ?_
  refine wp_reg ?_
  refine ol_r (r_lda (id := 9) (n := 7) rfl rfl rfl ag70) rfl ?_
  refine ol_store (id := 6) rfl rfl rfl rfl sz70 rfl rfl (by first | decide | exact Nat.zero_lt_succ _ | simp) ?_
  refine ol_nil (to_k0 (fun _ _ h => h) (hK12 _ _ _ _ _ ?_))
  clear hK12
  refine hQ.ret (rvs1 (rv_c (id := 6) (n := 7) rfl rfl ag70 rfl)) (fun _ _ h => h) fun w hb hs hB hkd => ?_
  exact ⟨rfl, hb⟩
theorem place_in {st : Int} {ss : List SmpR} (hok : SmpOk st ss) {t : Int} {k : Nat} (ht : 0 ≤ t ∧ t ≤ spanL ss) (hPl : WPlace ss t k) (hnf : ¬∃ y, ss[k]? = some y ∧ y.at_ = t) (hn : 0 < ss.length) :
    0 < k ∧ k < ss.length ∧ ∀ p q, ss[((k : Int) - 1).toNat]? = some p → ss[k]? = some q → ss[k - 1]? = some p ∧ p.at_ < t ∧ t < q.at_ := by
  have hkn : k < ss.length := by
    by_cases h : k < ss.length
    · exact h
    · have hk : k = ss.length := by have := hPl.le; omega
      rcases hPl.low with h1 | ⟨a, ha, hat⟩
      · omega
      · have := spanL_get ha (by omega)
        omega
  have hb : ss[k]? = some (ss[k]'hkn) := List.getElem?_eq_getElem _
  have hhi : t < (ss[k]'hkn).at_ := by
    rcases hPl.high with h | ⟨y, hy, hyt⟩
    · omega
    · rw [hb] at hy
      cases hy
      by_cases he : (ss[k]'hkn).at_ = t
      · exact absurd ⟨_, hb, he⟩ hnf
      · omega
  have hk0 : 0 < k := by
    by_cases h : k = 0
    · subst h
      have := hok.first _ hb
      omega
    · omega
  refine ⟨hk0, hkn, fun p q hp hq => ?_⟩
  have hp2 : ss[k - 1]? = some p := by rw [← hp]; congr 1; omega
  rw [hb] at hq
  cases hq
  refine ⟨hp2, ?_, hhi⟩
  rcases hPl.low with h | ⟨a, ha, hat⟩
  · omega
  · rw [hp2] at ha
    cases ha
    exact hat
theorem track_Where (A : ActV) (t : Int) (w : World) (hA : A.Ok w.heap.size w) (hok : SmpOk A.start A.ss) (ht : 0 ≤ t ∧ t ≤ spanL A.ss) (hn : 0 < A.ss.length) :
    Calls Try.prog 42 #[.agg #[.string A.name, .int .i64 A.sport, .int .i64 A.start, .slice A.sa A.sn A.sc, .slice A.la A.ln A.lc, .slice A.ta A.tn A.tc], .int .i64 t] w fun e w' => e = .returned (encSmp.val (whereV A.ss t)) ∧ Below w.heap.size w w' := by
  have hsn := hA.s.len
  have hl20 := hok.len
  refine enterQ (N := 33) (C := fun _ => True) (H := []) (B := w.heap.size) (args := [_, _]) Try.func42 rfl rfl rfl (Nat.le_refl _) (Sat.nil _ _) fun Q hQ => ?_
  refine wp_seq' fun K1 hK1 => ?_
  refine wp_reg ?_
  refine ol_box 2 rfl rfl rfl fun b2 => ?_
  refine ol_alloc 4 z70 rfl fun b4 => ?_
  refine ol_nil (to_k0 (fun _ _ h => h) (hK1 _ _ _ _ _ ?_))
  clear hK1
  refine wp_seq' fun K2 hK2 => ?_
  refine wp_reg ?_
  refine ol_r (r_fa (o' := 3) rfl fl57_3 rfl) rfl ?_
  refine ol_r (r_ld (id := 2) rfl rfl rfl sc53) rfl ?_
  refine ol_r (r_move rfl) rfl ?_
  refine ol_call rfl rfl cb73 rfl (fun w1 hb1 hs1 hB1 => ?_)
  refine Calls.mono (binarySearch_smp _ _ _ A.ss _ _ (hA.s.at hb1 hB1) (by omega)) ?_
  rintro e w2 ⟨k, ok, hPl, hok2, rfl, hb2⟩
  refine After.below rfl hb1 hs1 hB1 hb2 ?_
  clear hb2 hB1 hs1 hb1 w2 w1
  have hP := where_place hok (t := t) hPl.le hPl.low
  have hkle := hPl.le
  refine ol_r (r_move rfl) rfl ?_
  refine ol_r (r_extract rfl rfl) rfl ?_
  refine ol_r (r_extract rfl rfl) rfl ?_
  refine ol_r (r_assign rfl) rfl ?_
  refine ol_r (r_assign rfl) rfl ?_
  refine ol_nil (to_k0 (fun _ _ h => h) (hK2 _ _ _ _ _ ?_))
  clear hK2
  refine wp_seq' fun K3 hK3 => ?_
  refine wp_seq' fun K4 hK4 => ?_
  refine wp_reg ?_
  refine ol_r (r_move rfl) rfl ?_
  refine ol_nil (to_k0 (fun _ _ h => h) (hK4 _ _ _ _ _ ?_))
  clear hK4
  refine wp_cond' rfl (fun hc14 => ?_) (fun hc14 => ?_)
  ·refine wp_seq' fun K5 hK5 => ?_
   refine wp_reg ?_
   refine ol_r (r_fa (o' := 3) rfl fl57_3 rfl) rfl ?_
   refine ol_r (r_ld (id := 2) rfl rfl rfl sc53) rfl ?_
   obtain ⟨y, hy, hyt⟩ := hok2.1 hc14
   have hkl := (List.getElem?_eq_some_iff.1 hy).1
   refine ol_r (r_move rfl) rfl ?_
   refine ol_ixr hA.s rfl rfl sl53 (by omega) rfl fun x18 hx18 => ?_
   try simp only [Int.toNat_natCast] at hx18
   refine ol_r (r_ldw rfl (fun w1 hb1 hs1 hB1 => Rd.loads hA.s ty70 hx18 hb1)) rfl ?_
   refine ol_store (id := 4) rfl rfl rfl rfl sz70 rfl rfl (by first | decide | exact Nat.zero_lt_succ _ | simp) ?_
   refine ol_nil (to_k0 (fun _ _ h => h) (hK5 _ _ _ _ _ ?_))
   clear hK5
   refine hQ.ret (rvs1 (rv_c (id := 4) (n := 7) rfl rfl ag70 rfl)) (fun _ _ h => h) fun w hb hs hB hkd => ?_
   rw [hy] at hx18
   cases hx18
   exact ⟨by rw [where_hit hP hy hyt.symm]; rfl, hb⟩
  ·refine wp_skip' (to_k0 (fun _ _ h => h) (hK3 _ _ _ _ _ ?_))
   clear hK3
   refine wp_seq' fun K6 hK6 => ?_
   refine wp_regt 12 (by kernel_rfl) (by kernel_rfl) ?_
   simp only [List.take_succ_cons, List.take_zero, List.drop_succ_cons, List.drop_zero]
   have hnf : ¬∃ y, A.ss[k]? = some y ∧ y.at_ = t := fun h => by rw [hok2.2 h] at hc14; cases hc14
   obtain ⟨hk0, hkn, hpq⟩ := place_in hok ht hPl hnf hn
   refine sl_r (r_fa (o' := 3) rfl fl57_3 rfl) rfl ?_
   refine sl_r (r_ld (id := 2) rfl rfl rfl sc53) rfl ?_
   refine sl_r (r_move rfl) rfl ?_
   refine sl_r (r_sub rfl rfl (by omega)) rfl ?_
   refine sl_ixr hA.s rfl rfl sl53 (by omega) rfl fun x24 hx24 => ?_
   try simp only [Int.toNat_natCast] at hx24
   refine sl_r (r_ldw rfl (fun w1 hb1 hs1 hB1 => Rd.loads hA.s ty70 hx24 hb1)) rfl ?_
   refine sl_r (r_fa (o' := 3) rfl fl57_3 rfl) rfl ?_
   refine sl_r (r_ld (id := 2) rfl rfl rfl sc53) rfl ?_
   refine sl_r (r_move rfl) rfl ?_
   refine sl_ixr hA.s rfl rfl sl53 (by omega) rfl fun x29 hx29 => ?_
   try simp only [Int.toNat_natCast] at hx29
   refine sl_r (r_ldw rfl (fun w1 hb1 hs1 hB1 => Rd.loads hA.s ty70 hx29 hb1)) rfl ?_
   refine sl_r (r_move rfl) rfl ?_
   refine sl_nil ?_
   refine ol_call rfl rfl cb76 rfl (fun w1 hb1 hs1 hB1 => Calls.mono (track_amid x24 x29 t _ (pairOk hok (hpq _ _ hx24 hx29).1 hx29 (by have := (hpq _ _ hx24 hx29).2; omega) (by have := (hpq _ _ hx24 hx29).2; omega) (by have := (hpq _ _ hx24 hx29).2; omega))) ?_)
   rintro e w2 ⟨rfl, hb2⟩
   refine After.below rfl hb1 hs1 hB1 hb2 ?_
   clear hb2 hB1 hs1 hb1 w2 w1
   refine ol_store (id := 4) rfl rfl rfl rfl sz70 rfl rfl (by first | decide | exact Nat.zero_lt_succ _ | simp) ?_
   refine ol_nil (to_k0 (fun _ _ h => h) (hK6 _ _ _ _ _ ?_))
   clear hK6
   refine hQ.ret (rvs1 (rv_c (id := 4) (n := 7) rfl rfl ag70 rfl)) (fun _ _ h => h) fun w hb hs hB hkd => ?_
   exact ⟨by rw [where_seg hP hk0 (hpq _ _ hx24 hx29).1 hx29 (hpq _ _ hx24 hx29).2.2]; rfl, hb⟩
end Go.Proofs.Ytfbmkepogcimlaa

/-
  Activities with other samples: program and reference.
-/




namespace Go.Proofs.Ytfbmkepogcimlaa
open Go Go.RowKit Hx
set_option linter.unusedVariables false
set_option linter.unusedSimpArgs false
set_option maxRecDepth 8000
theorem SmpOk.span {st : Int} {ss : List SmpR} (h : SmpOk st ss) : 0 ≤ spanL ss ∧ spanL ss ≤ 1000000 := by
  unfold spanL
  split
  · rename_i x hx
    have := h.bd x (List.mem_of_getElem? hx)
    omega
  · omega
theorem record_Clone (A : ActV) (w : World) (hA : A.Ok w.heap.size w) (h1 : A.sn ≤ 1000000) (h2 : A.ln ≤ 1000000) (h3 : A.tn ≤ 1000000) :
    Calls Try.prog 54 #[.agg #[.string A.name, .int .i64 A.sport, .int .i64 A.start, .slice A.sa A.sn A.sc, .slice A.la A.ln A.lc, .slice A.ta A.tn A.tc]] w fun e w' => ∃ sa sn sc la ln lc ta tn tc, e = .returned (.agg #[.string A.name, .int .i64 A.sport, .int .i64 A.start, .slice sa sn sc, .slice la ln lc, .slice ta tn tc]) ∧ Below w.heap.size w w' ∧
      Sat w.heap.size w' [(1001, .row sa sn sc (encSmp.enc A.ss) 70 7), (1002, .row la ln lc (encLap.enc A.ls) 110 3), (1003, .row ta tn tc (encStr.enc A.ts) 9 1)] := by
  refine enterQ (N := 16) (C := fun _ => True) (H := []) (B := w.heap.size) (args := [_]) Try.func54 rfl rfl rfl (Nat.le_refl _) (Sat.nil _ _) fun Q hQ => ?_
  refine wp_seq' fun K1 hK1 => ?_
  refine wp_reg ?_
  refine ol_box 1 rfl rfl rfl fun b1 => ?_
  refine ol_alloc 2 z57 rfl fun b2 => ?_
  refine ol_nil (to_k0 (fun _ _ h => h) (hK1 _ _ _ _ _ ?_))
  clear hK1
  refine wp_seq' fun K2 hK2 => ?_
  refine wp_rega [(999, [(2, _)]), (10, [(1, _)])] (by kernel_rfl) ⟨.inr (subH_same rfl subH_nil), ⟨.inr (subH_same rfl subH_nil), trivial⟩⟩ ?_
  refine aq_r 0 999 rfl (by kernel_rfl) (by kernel_rfl) (by kernel_rfl) (.head _) (by kernel_rfl) (by kernel_rfl) rfl (r_fa (o' := 3) rfl fl57_3 rfl) ?_
  refine aq_r 1 10 rfl (by kernel_rfl) (by kernel_rfl) (by kernel_rfl) (.tail _ (.head _)) (by kernel_rfl) (by kernel_rfl) rfl (r_ld (id := 1) rfl rfl rfl sc53) ?_
  refine aq_r 3 999 rfl (by kernel_rfl) (by kernel_rfl) (by kernel_rfl) (.head _) (by kernel_rfl) (by kernel_rfl) rfl (r_fa (o' := 4) rfl fl57_4 rfl) ?_
  refine aq_r 4 10 rfl (by kernel_rfl) (by kernel_rfl) (by kernel_rfl) (.tail _ (.head _)) (by kernel_rfl) (by kernel_rfl) rfl (r_ld (id := 1) rfl rfl rfl sc54) ?_
  refine aq_r 6 999 rfl (by kernel_rfl) (by kernel_rfl) (by kernel_rfl) (.head _) (by kernel_rfl) (by kernel_rfl) rfl (r_fa (o' := 5) rfl fl57_5 rfl) ?_
  refine aq_r 7 10 rfl (by kernel_rfl) (by kernel_rfl) (by kernel_rfl) (.tail _ (.head _)) (by kernel_rfl) (by kernel_rfl) rfl (r_ld (id := 1) rfl rfl rfl sc55) ?_
  refine aq_one (i := 2) (by kernel_rfl) rfl fun K3 hK3 => ?_
  refine ol_call rfl rfl cb40 rfl (fun w1 hb1 hs1 hB1 => Calls.mono (clone_smp _ _ _ A.ss _ (hA.s.at hb1 hB1) h1) ?_)
  rintro e w2 ⟨a5, n5, c5, rfl, hf5⟩
  refine After.fresh (id := 5) rfl hb1 hs1 hB1 hf5 ?_
  have hl5 := hf5.len; clear hf5 hB1 hs1 hb1 w2 w1
  refine ol_nil (to_k0 (fun _ _ h => h) (hK3 _ _ ⟨.inr (by repeat' first | exact subH_nil | refine subH_same rfl ?_ | (refine subH_blk rfl (by repeat' first | exact sub_nil | refine sub_cons rfl ?_) ?_)), ⟨.inr (by repeat' first | exact subH_nil | refine subH_same rfl ?_ | (refine subH_blk rfl (by repeat' first | exact sub_nil | refine sub_cons rfl ?_) ?_)), trivial⟩⟩ ?_))
  clear hK3
  refine aq_r 9 999 rfl (by kernel_rfl) (by kernel_rfl) (by kernel_rfl) (.head _) (by kernel_rfl) (by kernel_rfl) rfl (r_fa (o' := 3) rfl fl57_3 rfl) ?_
  refine aq_one (i := 5) (by kernel_rfl) rfl fun K4 hK4 => ?_
  refine ol_call rfl rfl cb80 rfl (fun w1 hb1 hs1 hB1 => Calls.mono (clone_lap _ _ _ A.ls _ (hA.l.at hb1 hB1) h2) ?_)
  rintro e w2 ⟨a8, n8, c8, rfl, hf8⟩
  refine After.fresh (id := 8) rfl hb1 hs1 hB1 hf8 ?_
  have hl8 := hf8.len; clear hf8 hB1 hs1 hb1 w2 w1
  refine ol_nil (to_k0 (fun _ _ h => h) (hK4 _ _ ⟨.inr (by repeat' first | exact subH_nil | refine subH_same rfl ?_ | (refine subH_blk rfl (by repeat' first | exact sub_nil | refine sub_cons rfl ?_) ?_)), ⟨.inr (by repeat' first | exact subH_nil | refine subH_same rfl ?_ | (refine subH_blk rfl (by repeat' first | exact sub_nil | refine sub_cons rfl ?_) ?_)), trivial⟩⟩ ?_))
  clear hK4
  refine aq_one (i := 8) (by kernel_rfl) rfl fun K5 hK5 => ?_
  refine ol_call rfl rfl cb81 rfl (fun w1 hb1 hs1 hB1 => Calls.mono (clone_str _ _ _ A.ts _ (hA.t.at hb1 hB1) h3) ?_)
  rintro e w2 ⟨a11, n11, c11, rfl, hf11⟩
  refine After.fresh (id := 11) rfl hb1 hs1 hB1 hf11 ?_
  have hl11 := hf11.len; clear hf11 hB1 hs1 hb1 w2 w1
  refine ol_nil (to_k0 (fun _ _ h => h) (hK5 _ _ ⟨.inr (by repeat' first | exact subH_nil | refine subH_same rfl ?_ | (refine subH_blk rfl (by repeat' first | exact sub_nil | refine sub_cons rfl ?_) ?_)), ⟨.inr (by repeat' first | exact subH_nil | refine subH_same rfl ?_ | (refine subH_blk rfl (by repeat' first | exact sub_nil | refine sub_cons rfl ?_) ?_)), trivial⟩⟩ ?_))
  clear hK5
  refine aq_one (i := 10) (by kernel_rfl) rfl fun K6 hK6 => ?_
  refine ol_store (id := 1) rfl rfl rfl rfl sz53 rfl rfl (by first | decide | exact Nat.zero_lt_succ _ | simp) ?_
  refine ol_nil (to_k0 (fun _ _ h => h) (hK6 _ _ ⟨.inr (by repeat' first | exact subH_nil | refine subH_same rfl ?_ | (refine subH_blk rfl (by repeat' first | exact sub_nil | refine sub_cons rfl ?_) ?_)), ⟨.inl (by kernel_rfl), trivial⟩⟩ ?_))
  clear hK6
  refine aq_r 11 999 rfl (by kernel_rfl) (by kernel_rfl) (by kernel_rfl) (.head _) (by kernel_rfl) (by kernel_rfl) rfl (r_fa (o' := 4) rfl fl57_4 rfl) ?_
  refine aq_one (i := 12) (by kernel_rfl) rfl fun K7 hK7 => ?_
  refine ol_store (id := 1) rfl rfl rfl rfl sz54 rfl rfl (by first | decide | exact Nat.zero_lt_succ _ | simp) ?_
  refine ol_nil (to_k0 (fun _ _ h => h) (hK7 _ _ ⟨.inr (by repeat' first | exact subH_nil | refine subH_same rfl ?_ | (refine subH_blk rfl (by repeat' first | exact sub_nil | refine sub_cons rfl ?_) ?_)), ⟨.inl (by kernel_rfl), trivial⟩⟩ ?_))
  clear hK7
  refine aq_r 13 999 rfl (by kernel_rfl) (by kernel_rfl) (by kernel_rfl) (.head _) (by kernel_rfl) (by kernel_rfl) rfl (r_fa (o' := 5) rfl fl57_5 rfl) ?_
  refine aq_one (i := 14) (by kernel_rfl) rfl fun K8 hK8 => ?_
  refine ol_store (id := 1) rfl rfl rfl rfl sz55 rfl rfl (by first | decide | exact Nat.zero_lt_succ _ | simp) ?_
  refine ol_nil (to_k0 (fun _ _ h => h) (hK8 _ _ ⟨.inr (by repeat' first | exact subH_nil | refine subH_same rfl ?_ | (refine subH_blk rfl (by repeat' first | exact sub_nil | refine sub_cons rfl ?_) ?_)), ⟨.inl (by kernel_rfl), trivial⟩⟩ ?_))
  clear hK8
  refine aq_done (by kernel_rfl) ?_
  refine (to_k0 (fun _ _ h => h) (hK2 _ _ _ _ _ ?_))
  clear hK2
  refine wp_seq' fun K9 hK9 => ?_
  refine wp_reg ?_
  refine ol_r (r_lda (id := 1) (n := 6) rfl rfl rfl ag57) rfl ?_
  refine ol_store (id := 2) rfl rfl rfl rfl sz57 rfl rfl (by first | decide | exact Nat.zero_lt_succ _ | simp) ?_
  refine ol_nil (to_k0 (fun _ _ h => h) (hK9 _ _ _ _ _ ?_))
  clear hK9
  refine hQ.ret (rvs1 (rv_c (id := 2) (n := 6) rfl rfl ag57 rfl)) (fun _ _ h => h) fun w hb hs hB hkd => ?_
  exact ⟨_, _, _, _, _, _, _, _, _, rfl, hb, hs.three 5 8 11 1001 1002 1003 (by decide) (by decide) (by decide) rfl rfl rfl (Ent.le_refl _) (Ent.le_refl _) (Ent.le_refl _)⟩
theorem track_moved (a : Option Addr) (n c : Nat) (xs : List LapR) (by_ span : Int) (w : World) (hl : Rd encLap w.heap.size w a n c xs) (hn : n ≤ 1000000) (hb : ∀ x ∈ xs, -1000000000000 ≤ x.from_ - by_ ∧ x.from_ - by_ ≤ 1000000000000 ∧ -1000000000000 ≤ x.to - by_ ∧ x.to - by_ ≤ 1000000000000) :
    Calls Try.prog 77 #[.slice a n c, .int .i64 by_, .int .i64 span] w fun e w' => ∃ b m k, e = .returned (.slice b m k) ∧ Fresh encLap 110 w w' b m k (backL by_ span xs) := by
  have hln := hl.len
  refine enterQ (N := 43) (C := fun _ => True) (H := []) (B := w.heap.size) (args := [_, _, _]) Try.func77 rfl rfl rfl (Nat.le_refl _) (Sat.nil _ _) fun Q hQ => ?_
  refine wp_seq' fun K1 hK1 => ?_
  refine wp_reg ?_
  refine ol_r (r_assign rfl) rfl ?_
  refine ol_nil (to_k0 (fun _ _ h => h) (hK1 _ _ _ _ _ ?_))
  clear hK1
  refine wp_seq' fun K2 hK2 => ?_
  refine wp_reg ?_
  refine ol_nilrow 7 110 3 ?_
  refine ol_r (r_assign rfl) rfl ?_
  refine ol_nil (to_k0 (fun _ _ h => h) (hK2 _ _ _ _ _ ?_))
  clear hK2
  refine wp_seq' fun K3 hK3 => ?_
  refine wp_seq' fun K4 hK4 => ?_
  refine wp_reg ?_
  refine ol_r (r_move rfl) rfl ?_
  refine ol_r (r_len rfl sl54) rfl ?_
  refine ol_r (r_move rfl) rfl ?_
  refine ol_nil (to_k0 (fun _ _ h => h) (hK4 _ _ _ _ _ ?_))
  clear hK4
  refine wp_block' ?_
  apply wp_loopM (σ := Nat × Option Addr × Nat × Nat) (fun s => s.1 ≤ xs.length ∧ s.2.2.1 ≤ s.1) (fun s => [(12, .int .i64 s.1), (7, .slice s.2.1 s.2.2.1 s.2.2.2)]) [(1, _), (2, _), (6, _), (10, _), (11, _)] (fun s => [(7, .row s.2.1 s.2.2.1 s.2.2.2 (encLap.enc (backL by_ span (xs.take s.1))) 110 3)]) [] (fun s => xs.length - s.1) ((0, none, 0, 0))
  ·try dsimp only
   exact ⟨Nat.zero_le _, Nat.le_refl _⟩
  ·exact (sub_cons rfl (sub_cons rfl sub_nil))
  ·exact (sub_cons rfl (sub_cons rfl (sub_cons rfl (sub_cons rfl (sub_cons rfl sub_nil)))))
  ·exact (subH_row rfl (by dsimp only; rfl) subH_nil)
  ·exact subH_nil
  ·rintro ⟨k, oa, on, oc⟩ ⟨hk, hon⟩
   dsimp only at hk hon ⊢
   intro K5 hK5
   refine wp_seq' fun K6 hK6 => ?_
   refine wp_reg ?_
   refine ol_r (r_lss rfl rfl) rfl ?_
   refine ol_nil (to_k0 (fun _ _ h => h) (hK6 _ _ _ _ _ ?_))
   clear hK6
   refine wp_seq' fun K7 hK7 => ?_
   refine wp_condD rfl (fun hc13 => ?_) (fun hc13 => ?_)
   ·refine wp_skip' (to_k0 (fun _ _ h => h) (hK7 _ _ _ _ _ ?_))
    clear hK7
    refine wp_seq' fun K8 hK8 => ?_
    refine wp_block' ?_
    refine wp_seq' fun K9 hK9 => ?_
    refine wp_reg ?_
    refine ol_ixr hl rfl rfl sl54 (by omega) rfl fun x14 hx14 => ?_
    try simp only [Int.toNat_natCast] at hx14
    refine ol_r (r_ldw rfl (fun w1 hb1 hs1 hB1 => Rd.loads hl ty110 hx14 hb1)) rfl ?_
    refine ol_alloc 9 z110 rfl fun b9 => ?_
    refine ol_store (id := 9) rfl rfl rfl rfl sz110 rfl rfl (by first | decide | exact Nat.zero_lt_succ _ | simp) ?_
    refine ol_nil (to_k0 (fun _ _ h => h) (hK9 _ _ _ _ _ ?_))
    clear hK9
    refine wp_seq' fun K10 hK10 => ?_
    refine wp_reg ?_
    refine ol_r (r_fa (o' := 0) rfl fl110_0 rfl) rfl ?_
    refine ol_r (r_ld (id := 9) rfl rfl rfl sc3) rfl ?_
    refine ol_r (r_move rfl) rfl ?_
    have hbx := hb _ (List.mem_of_getElem? hx14)
    refine ol_r (r_sub rfl rfl (by omega)) rfl ?_
    refine ol_r (r_max rfl rfl) rfl ?_
    refine ol_r (r_move rfl) rfl ?_
    refine ol_r (r_min rfl rfl) rfl ?_
    refine ol_r (r_fa (o' := 1) rfl fl110_1 rfl) rfl ?_
    refine ol_r (r_ld (id := 9) rfl rfl rfl sc3) rfl ?_
    refine ol_r (r_move rfl) rfl ?_
    refine ol_r (r_sub rfl rfl (by omega)) rfl ?_
    refine ol_r (r_max rfl rfl) rfl ?_
    refine ol_r (r_move rfl) rfl ?_
    refine ol_r (r_min rfl rfl) rfl ?_
    refine ol_r (r_fa (o' := 0) rfl fl110_0 rfl) rfl ?_
    refine ol_store (id := 9) rfl rfl rfl rfl sz3 rfl rfl (by first | decide | exact Nat.zero_lt_succ _ | simp) ?_
    refine ol_r (r_fa (o' := 1) rfl fl110_1 rfl) rfl ?_
    refine ol_store (id := 9) rfl rfl rfl rfl sz3 rfl rfl (by first | decide | exact Nat.zero_lt_succ _ | simp) ?_
    refine ol_nil (to_k0 (fun _ _ h => h) (hK10 _ _ _ _ _ ?_))
    clear hK10
    refine wp_seq' fun K11 hK11 => ?_
    refine wp_reg ?_
    refine ol_r (r_fa (o' := 0) rfl fl110_0 rfl) rfl ?_
    refine ol_r (r_ld (id := 9) rfl rfl rfl sc3) rfl ?_
    refine ol_r (r_fa (o' := 1) rfl fl110_1 rfl) rfl ?_
    refine ol_r (r_ld (id := 9) rfl rfl rfl sc3) rfl ?_
    refine ol_r (r_lss rfl rfl) rfl ?_
    refine ol_nil (to_k0 (fun _ _ h => h) (hK11 _ _ _ _ _ ?_))
    clear hK11
    refine wp_condD rfl (fun hc36 => ?_) (fun hc36 => ?_)
    ·refine wp_reg ?_
     refine ol_r (r_move rfl) rfl ?_
     refine ol_r (r_lda (id := 9) (n := 3) rfl rfl rfl ag110) rfl ?_
     refine ol_bs1 39 rfl rfl rw54 rfl rfl rfl fun a39 => ?_
     refine ol_append1 (id := 7) (id2 := 39) rfl rfl rfl rfl rfl rw54 (by omega) rfl fun a40 c40 => ?_
     refine ol_r (r_assign rfl) rfl ?_
     refine ol_nil (to_k0 (fun _ _ h => h) (hK8 _ _ _ _ _ ?_))
     clear hK8
     refine wp_reg ?_
     refine ol_r (r_add rfl rfl (by omega)) rfl ?_
     refine ol_r (r_move rfl) rfl ?_
     refine ol_nil (to_k0 (fun _ _ h => h) (hK5 ((k + 1, _, _, _)) _ _ ?_ ?_ (sub_cons rfl (sub_cons rfl sub_nil)) (sub_cons rfl (sub_cons rfl (sub_cons rfl (sub_cons rfl (sub_cons rfl sub_nil))))) (by exact (subH_row rfl (by first | (dsimp only; first | (rw [backL_yes hx14 hc36, Enc.enc_append]; rfl) | (rw [backL_no hx14 hc36]); done) | (first | (rw [backL_yes hx14 hc36, Enc.enc_append]; rfl) | (rw [backL_no hx14 hc36]); done) | (dsimp only; done)) subH_nil)) subH_nil))
     ·try dsimp only
      exact ⟨by omega, by omega⟩
     ·try dsimp only
      omega
    ·refine wp_skip' (to_k0 (fun _ _ h => h) (hK8 _ _ _ _ _ ?_))
     clear hK8
     refine wp_reg ?_
     refine ol_r (r_add rfl rfl (by omega)) rfl ?_
     refine ol_r (r_move rfl) rfl ?_
     refine ol_nil (to_k0 (fun _ _ h => h) (hK5 ((k + 1, _, _, _)) _ _ ?_ ?_ (sub_cons rfl (sub_cons rfl sub_nil)) (sub_cons rfl (sub_cons rfl (sub_cons rfl (sub_cons rfl (sub_cons rfl sub_nil))))) (by exact (subH_row rfl (by dsimp only; first | (rw [backL_yes hx14 hc36, Enc.enc_append]; rfl) | (rw [backL_no hx14 hc36])) subH_nil)) subH_nil))
     ·try dsimp only
      exact ⟨by omega, by omega⟩
     ·try dsimp only
      omega
   ·refine wp_exit' (to_k0 (fun _ _ h => h) (hK3 _ _ _ _ _ ?_))
    clear hK3
    refine wp_seq' fun K12 hK12 => ?_
    refine wp_reg ?_
    refine ol_r (r_move rfl) rfl ?_
    refine ol_r (r_assign rfl) rfl ?_
    refine ol_nil (to_k0 (fun _ _ h => h) (hK12 _ _ _ _ _ ?_))
    clear hK12
    refine hQ.ret (rvs1 (rv_t rfl)) (fun _ _ h => h) fun w hb hs hB hkd => ?_
    have h9 := hs.ok 7 _ rfl
    rw [List.take_of_length_le (by omega)] at h9
    exact ⟨_, _, _, rfl, hb, h9⟩
/-- An activity that goes out, in memory of its own. -/
def OutA (B : Nat) (w' : World) (r : ActD × Int) (e : Ending) : Prop :=
  ∃ sa sn sc la ln lc ta tn tc, e = .returned (.tuple #[.agg #[.string r.1.name, .int .i64 r.1.sport, .int .i64 r.1.start, .slice sa sn sc, .slice la ln lc, .slice ta tn tc], .int .i64 r.2]) ∧
    Sat B w' [(1001, .row sa sn sc (encSmp.enc r.1.ss) 70 7), (1002, .row la ln lc (encLap.enc r.1.ls) 110 3), (1003, .row ta tn tc (encStr.enc r.1.ts) 9 1)]
theorem back_lo {l : List SmpR} {b : Int} (hat : ∀ x ∈ l, -1000000000 ≤ x.at_ ∧ x.at_ ≤ 1000000000) (hby : -1000000000 ≤ b ∧ b ≤ 1000000000) : ∀ x ∈ backS b l, -9223372036854775808 ≤ x.at_ ∧ x.at_ ≤ 9223372036854775807 := by
  intro x hx
  obtain ⟨y, hy, rfl⟩ := List.mem_map.1 hx
  have := hat y hy
  show _ ≤ y.at_ - b ∧ y.at_ - b ≤ _
  omega
theorem back_lm {l : List LapR} {b sp : Int} {N : Nat} (h : ∀ x ∈ l, x.name.size ≤ N) : ∀ x ∈ backL b sp l, x.name.size ≤ N := by
  intro x hx
  obtain ⟨y, hy, rfl⟩ := List.mem_map.1 (List.mem_filter.1 hx).1
  exact h y hy
theorem track_part (A : ActV) (a : Option Addr) (n c : Nat) (l : List SmpR) (b : Int) (w : World) (hA : A.Ok w.heap.size w) (hl : Rd encSmp w.heap.size w a n c l) (hg : GoodA A.d) (hn : n ≤ 1000000) (hat : ∀ x ∈ l, -1000000000 ≤ x.at_ ∧ x.at_ ≤ 1000000000) (hby : -1000000000 ≤ b ∧ b ≤ 1000000000) :
    Calls Try.prog 43 #[.agg #[.string A.name, .int .i64 A.sport, .int .i64 A.start, .slice A.sa A.sn A.sc, .slice A.la A.ln A.lc, .slice A.ta A.tn A.tc], .slice a n c, .int .i64 b] w fun e w' => OutA w.heap.size w' (partR A.d l b) e ∧ Below w.heap.size w w' := by
  have hsn := hA.s.len
  have hln := hA.l.len
  have htn := hA.t.len
  have hnn := hl.len
  have hsp := hg.smp.span
  have hlb := lap_bd hg
  have hst := inB_iff.1 hg.head.2.2.1
  obtain ⟨g4, g5, g6⟩ := hg.head.2.2.2
  dsimp only [ActV.d] at hlb hst g4 g5 g6 hsp
  have hlo := back_lo hat hby
  refine enterQ (N := 52) (C := fun _ => True) (H := []) (B := w.heap.size) (args := [_, _, _]) Try.func43 rfl rfl rfl (Nat.le_refl _) (Sat.nil _ _) fun Q hQ => ?_
  refine wp_seq' fun K1 hK1 => ?_
  refine wp_reg ?_
  refine ol_box 3 rfl rfl rfl fun b3 => ?_
  refine ol_alloc 6 z57 rfl fun b6 => ?_
  refine ol_r (r_assign rfl) rfl ?_
  refine ol_nil (to_k0 (fun _ _ h => h) (hK1 _ _ _ _ _ ?_))
  clear hK1
  refine wp_seq' fun K2 hK2 => ?_
  refine wp_reg ?_
  refine ol_r (r_lda (id := 3) (n := 6) rfl rfl rfl ag57) rfl ?_
  refine ol_call rfl rfl cb54 rfl (fun w1 hb1 hs1 hB1 => ?_)
  refine Calls.mono (record_Clone A _ (hA.at hb1 hB1) (by omega) (by omega) (by omega)) ?_
  rintro e w2 ⟨sa, sn, sc, la, ln, lc, ta, tn, tc, rfl, hb2, hs2⟩
  refine After.more rfl hb1 hs1 hB1 hb2 hs2 ?_
  clear hs2 hb2 hB1 hs1 hb1 w2 w1
  refine ol_alloc 8 z57 rfl fun b8 => ?_
  refine ol_store (id := 8) rfl rfl rfl rfl sz57 rfl rfl (by first | decide | exact Nat.zero_lt_succ _ | simp) ?_
  refine ol_nil (to_k0 (fun _ _ h => h) (hK2 _ _ _ _ _ ?_))
  clear hK2
  refine wp_seq' fun K3 hK3 => ?_
  refine wp_reg ?_
  refine ol_r (r_fa (o' := 3) rfl fl57_3 rfl) rfl ?_
  refine ol_store (id := 8) rfl rfl rfl rfl sz53 rfl rfl (by first | decide | exact Nat.zero_lt_succ _ | simp) ?_
  refine ol_nil (to_k0 (fun _ _ h => h) (hK3 _ _ _ _ _ ?_))
  clear hK3
  refine wp_seq' fun K4 hK4 => ?_
  refine wp_seq' fun K5 hK5 => ?_
  refine wp_reg ?_
  refine ol_nilrow 60 70 7 ?_
  refine ol_r (r_move rfl) rfl ?_
  refine ol_r (r_len rfl sl53) rfl ?_
  refine ol_r (r_move rfl) rfl ?_
  refine ol_nil (to_k0 (fun _ _ h => h) (hK5 _ _ _ _ _ ?_))
  clear hK5
  refine wp_block' ?_
  apply wp_loopM (σ := Nat × Option Addr × Nat) (fun s => s.1 ≤ l.length) (fun s => [(17, .int .i64 s.1)]) [(2, _), (3, _), (6, _), (7, _), (8, _), (15, _), (16, _)] (fun s => [(8, .blk b8 [(0, .string A.name), (1, .int .i64 A.sport), (2, .int .i64 A.start), (3, .slice s.2.1 s.1 s.2.2), (4, .slice la ln lc), (5, .slice ta tn tc)] 57), (60, .row s.2.1 s.1 s.2.2 (encSmp.enc (backS b (l.take s.1))) 70 7)]) [(3, _), (6, _), (1001, _), (1002, _), (1003, _)] (fun s => l.length - s.1) ((0, none, 0))
  ·try dsimp only
   exact Nat.zero_le _
  ·exact (sub_cons rfl sub_nil)
  ·exact (sub_cons rfl (sub_cons rfl (sub_cons rfl (sub_cons rfl (sub_cons rfl (sub_cons rfl (sub_cons rfl sub_nil)))))))
  ·exact (subH_blk rfl (sub_cons rfl (sub_cons rfl (sub_cons rfl (sub_cons rfl (sub_cons rfl (sub_cons rfl sub_nil)))))) (subH_row rfl (by dsimp only; rfl) subH_nil))
  ·exact (subH_same rfl (subH_same rfl (subH_same rfl (subH_same rfl (subH_same rfl subH_nil)))))
  ·rintro ⟨k, oa, oc⟩ hk
   dsimp only at hk ⊢
   intro K6 hK6
   refine wp_seq' fun K7 hK7 => ?_
   refine wp_reg ?_
   refine ol_r (r_lss rfl rfl) rfl ?_
   refine ol_nil (to_k0 (fun _ _ h => h) (hK7 _ _ _ _ _ ?_))
   clear hK7
   refine wp_seq' fun K8 hK8 => ?_
   refine wp_condD rfl (fun hc18 => ?_) (fun hc18 => ?_)
   ·refine wp_skip' (to_k0 (fun _ _ h => h) (hK8 _ _ _ _ _ ?_))
    clear hK8
    refine wp_seq' fun K9 hK9 => ?_
    refine wp_block' ?_
    refine wp_seq' fun K10 hK10 => ?_
    refine wp_reg ?_
    refine ol_ixr hl rfl rfl sl53 (by omega) rfl fun x19 hx19 => ?_
    try simp only [Int.toNat_natCast] at hx19
    refine ol_r (r_ldw rfl (fun w1 hb1 hs1 hB1 => Rd.loads hl ty70 hx19 hb1)) rfl ?_
    refine ol_alloc 10 z70 rfl fun b10 => ?_
    refine ol_store (id := 10) rfl rfl rfl rfl sz70 rfl rfl (by first | decide | exact Nat.zero_lt_succ _ | simp) ?_
    refine ol_nil (to_k0 (fun _ _ h => h) (hK10 _ _ _ _ _ ?_))
    clear hK10
    refine wp_seq' fun K11 hK11 => ?_
    refine wp_reg ?_
    refine ol_r (r_fa (o' := 0) rfl fl70_0 rfl) rfl ?_
    refine ol_r (r_ld (id := 10) rfl rfl rfl sc3) rfl ?_
    refine ol_r (r_move rfl) rfl ?_
    have hxa := hat _ (List.mem_of_getElem? hx19)
    refine ol_r (r_sub rfl rfl (by omega)) rfl ?_
    refine ol_r (r_fa (o' := 0) rfl fl70_0 rfl) rfl ?_
    refine ol_store (id := 10) rfl rfl rfl rfl sz3 rfl rfl (by first | decide | exact Nat.zero_lt_succ _ | simp) ?_
    refine ol_nil (to_k0 (fun _ _ h => h) (hK11 _ _ _ _ _ ?_))
    clear hK11
    refine wp_reg ?_
    refine ol_r (r_fa (o' := 3) rfl fl57_3 rfl) rfl ?_
    refine ol_r (r_ld (id := 8) rfl rfl rfl sc53) rfl ?_
    refine ol_r (r_lda (id := 10) (n := 7) rfl rfl rfl ag70) rfl ?_
    refine ol_bs1 29 rfl rfl rw53 rfl rfl rfl fun a29 => ?_
    refine ol_append1 (id := 60) (id2 := 29) rfl rfl rfl rfl rfl rw53 (by omega) rfl fun a30 c30 => ?_
    refine ol_r (r_fa (o' := 3) rfl fl57_3 rfl) rfl ?_
    refine ol_store (id := 8) rfl rfl rfl rfl sz53 rfl rfl (by first | decide | exact Nat.zero_lt_succ _ | simp) ?_
    refine ol_nil (to_k0 (fun _ _ h => h) (hK9 _ _ _ _ _ ?_))
    clear hK9
    refine wp_reg ?_
    refine ol_r (r_add rfl rfl (by omega)) rfl ?_
    refine ol_r (r_move rfl) rfl ?_
    refine ol_nil (to_k0 (fun _ _ h => h) (hK6 ((k + 1, _, _)) _ _ ?_ ?_ (sub_cons rfl sub_nil) (sub_cons rfl (sub_cons rfl (sub_cons rfl (sub_cons rfl (sub_cons rfl (sub_cons rfl (sub_cons rfl sub_nil))))))) (by exact (subH_blk rfl (sub_cons rfl (sub_cons rfl (sub_cons rfl (sub_cons rfl (sub_cons rfl (sub_cons rfl sub_nil)))))) (subH_row rfl (by dsimp only; (rw [backS_succ hx19, Enc.enc_append]; rfl)) subH_nil))) (subH_same rfl (subH_same rfl (subH_same rfl (subH_same rfl (subH_same rfl subH_nil)))))))
    ·try dsimp only
     omega
    ·try dsimp only
     omega
   ·refine wp_exit' (to_k0 (fun _ _ h => h) (hK4 _ _ _ _ _ ?_))
    clear hK4
    refine wp_seq' fun K12 hK12 => ?_
    refine wp_reg ?_
    refine ol_r (r_fa (o' := 2) rfl fl57_2 rfl) rfl ?_
    refine ol_r (r_ld (id := 8) rfl rfl rfl sc3) rfl ?_
    refine ol_r (r_move rfl) rfl ?_
    have hkl : k = l.length := by omega
    subst hkl
    rw [List.take_of_length_le (Nat.le_refl _)]
    refine ol_r (r_add rfl rfl (by omega)) rfl ?_
    refine ol_r (r_fa (o' := 2) rfl fl57_2 rfl) rfl ?_
    refine ol_store (id := 8) rfl rfl rfl rfl sz3 rfl rfl (by first | decide | exact Nat.zero_lt_succ _ | simp) ?_
    refine ol_nil (to_k0 (fun _ _ h => h) (hK12 _ _ _ _ _ ?_))
    clear hK12
    refine wp_seq' fun K13 hK13 => ?_
    refine wp_rega [(999, [(3, _), (6, _), (60, _), (1001, _), (1002, _), (1003, _)]), (7, [(8, _)])] (by kernel_rfl) ⟨.inr (subH_same rfl (subH_same rfl (subH_same rfl (subH_same rfl (subH_same rfl (subH_same rfl subH_nil)))))), ⟨.inr (subH_same rfl subH_nil), trivial⟩⟩ ?_
    refine aq_r 0 999 rfl (by kernel_rfl) (by kernel_rfl) (by kernel_rfl) (.head _) (by kernel_rfl) (by kernel_rfl) rfl (r_fa (o' := 4) rfl fl57_4 rfl) ?_
    refine aq_r 1 999 rfl (by kernel_rfl) (by kernel_rfl) (by kernel_rfl) (.head _) (by kernel_rfl) (by kernel_rfl) rfl (r_ld (id := 3) rfl rfl rfl sc54) ?_
    refine aq_r 2 999 rfl (by kernel_rfl) (by kernel_rfl) (by kernel_rfl) (.head _) (by kernel_rfl) (by kernel_rfl) rfl (r_move rfl) ?_
    refine aq_r 3 7 rfl (by kernel_rfl) (by kernel_rfl) (by kernel_rfl) (.tail _ (.head _)) (by kernel_rfl) (by kernel_rfl) rfl (r_lda (id := 8) (n := 6) rfl rfl rfl ag57) ?_
    refine aq_one (i := 4) (by kernel_rfl) rfl fun K14 hK14 => ?_
    refine ol_call rfl rfl cb41 rfl (fun w1 hb1 hs1 hB1 => Calls.mono (record_Span ⟨A.name, A.sport, A.start + b, oa, l.length, oc, la, ln, lc, ta, tn, tc, backS b l, A.ls, A.ts⟩ _ ⟨Sat.rd hs1 (id := 60) rfl rfl, Sat.rd hs1 (id := 1002) rfl rfl, Sat.rd hs1 (id := 1003) rfl rfl, hA.nm, hA.lm, hA.tm, hlo⟩) ?_)
    rintro e w2 ⟨rfl, hb2⟩
    refine After.below rfl hb1 hs1 hB1 hb2 ?_
    clear hb2 hB1 hs1 hb1 w2 w1
    refine ol_nil (to_k0 (fun _ _ h => h) (hK14 _ _ ⟨.inr (by repeat' first | exact subH_nil | refine subH_same rfl ?_ | (refine subH_blk rfl (by repeat' first | exact sub_nil | refine sub_cons rfl ?_) ?_)), ⟨.inr (by repeat' first | exact subH_nil | refine subH_same rfl ?_ | (refine subH_blk rfl (by repeat' first | exact sub_nil | refine sub_cons rfl ?_) ?_)), trivial⟩⟩ ?_))
    clear hK14
    refine aq_one (i := 5) (by kernel_rfl) rfl fun K15 hK15 => ?_
    refine ol_call rfl rfl cb77 rfl (fun w1 hb1 hs1 hB1 => Calls.mono (track_moved _ _ _ A.ls b _ _ (hA.l.at hb1 hB1) (by omega) (fun x hx => by have := hlb x hx; omega)) ?_)
    rintro e w2 ⟨a43, n43, c43, rfl, hf43⟩
    refine After.fresh (id := 43) rfl hb1 hs1 hB1 hf43 ?_
    have hl43 := hf43.len; clear hf43 hB1 hs1 hb1 w2 w1
    refine ol_nil (to_k0 (fun _ _ h => h) (hK15 _ _ ⟨.inr (by repeat' first | exact subH_nil | refine subH_same rfl ?_ | (refine subH_blk rfl (by repeat' first | exact sub_nil | refine sub_cons rfl ?_) ?_)), ⟨.inr (by repeat' first | exact subH_nil | refine subH_same rfl ?_ | (refine subH_blk rfl (by repeat' first | exact sub_nil | refine sub_cons rfl ?_) ?_)), trivial⟩⟩ ?_))
    clear hK15
    refine aq_r 6 999 rfl (by kernel_rfl) (by kernel_rfl) (by kernel_rfl) (.head _) (by kernel_rfl) (by kernel_rfl) rfl (r_fa (o' := 4) rfl fl57_4 rfl) ?_
    refine aq_one (i := 7) (by kernel_rfl) rfl fun K16 hK16 => ?_
    refine ol_store (id := 8) rfl rfl rfl rfl sz54 rfl rfl (by first | decide | exact Nat.zero_lt_succ _ | simp) ?_
    refine ol_nil (to_k0 (fun _ _ h => h) (hK16 _ _ ⟨.inr (by repeat' first | exact subH_nil | refine subH_same rfl ?_ | (refine subH_blk rfl (by repeat' first | exact sub_nil | refine sub_cons rfl ?_) ?_)), ⟨.inl (by kernel_rfl), trivial⟩⟩ ?_))
    clear hK16
    refine aq_done (by kernel_rfl) ?_
    refine (to_k0 (fun _ _ h => h) (hK13 _ _ _ _ _ ?_))
    clear hK13
    refine wp_seq' fun K17 hK17 => ?_
    refine wp_seq' fun K18 hK18 => ?_
    refine wp_reg ?_
    refine ol_r (r_lda (id := 8) (n := 6) rfl rfl rfl ag57) rfl ?_
    refine ol_call rfl rfl cb20 rfl (fun w1 hb1 hs1 hB1 => Calls.mono (record_Check ⟨A.name, A.sport, A.start + b, oa, l.length, oc, a43, n43, c43, ta, tn, tc, backS b l, backL b (spanL (backS b l)) A.ls, A.ts⟩ _ ⟨Sat.rd hs1 (id := 60) rfl rfl, Sat.rd hs1 (id := 43) rfl rfl, Sat.rd hs1 (id := 1003) rfl rfl, hA.nm, back_lm hA.lm, hA.tm, hlo⟩) ?_)
    rintro e w2 ⟨rfl, hb2⟩
    refine After.below rfl hb1 hs1 hB1 hb2 ?_
    clear hb2 hB1 hs1 hb1 w2 w1
    refine ol_r (r_assign rfl) rfl ?_
    refine ol_nil (to_k0 (fun _ _ h => h) (hK18 _ _ _ _ _ ?_))
    clear hK18
    refine wp_seq' fun K19 hK19 => ?_
    refine wp_reg ?_
    refine ol_r (r_move rfl) rfl ?_
    refine ol_r (r_neq rfl rfl) rfl ?_
    refine ol_nil (to_k0 (fun _ _ h => h) (hK19 _ _ _ _ _ ?_))
    clear hK19
    refine wp_condD rfl (fun hc48 => ?_) (fun hc48 => ?_)
    ·refine wp_seq' fun K20 hK20 => ?_
     refine wp_reg ?_
     refine ol_r (r_build rfl (fun _ => bd57 _)) rfl ?_
     refine ol_r (r_move rfl) rfl ?_
     refine ol_store (id := 6) rfl rfl rfl rfl sz57 rfl rfl (by first | decide | exact Nat.zero_lt_succ _ | simp) ?_
     refine ol_r (r_assign rfl) rfl ?_
     refine ol_nil (to_k0 (fun _ _ h => h) (hK20 _ _ _ _ _ ?_))
     clear hK20
     refine hQ.ret (rvs2 (rv_c (id := 6) (n := 6) rfl rfl ag57 rfl) (rv_t rfl)) (fun _ _ h => h) fun w hb hs hB hkd => ?_
     have h := partR_e (a := A.d) (l := l) (b := b) hc48
     refine ⟨⟨none, 0, 0, none, 0, 0, none, 0, 0, ?_, ?_⟩, hb⟩
     · rw [h]; rfl
     · rw [h]; exact ((((Sat.nil _ _).nilRow 1003 _ _).nilRow 1002 _ _).nilRow 1001 _ _)
    ·refine wp_skip' (to_k0 (fun _ _ h => h) (hK17 _ _ _ _ _ ?_))
     clear hK17
     refine wp_seq' fun K21 hK21 => ?_
     refine wp_reg ?_
     refine ol_r (r_lda (id := 8) (n := 6) rfl rfl rfl ag57) rfl ?_
     refine ol_store (id := 6) rfl rfl rfl rfl sz57 rfl rfl (by first | decide | exact Nat.zero_lt_succ _ | simp) ?_
     refine ol_r (r_assign rfl) rfl ?_
     refine ol_nil (to_k0 (fun _ _ h => h) (hK21 _ _ _ _ _ ?_))
     clear hK21
     refine hQ.ret (rvs2 (rv_c (id := 6) (n := 6) rfl rfl ag57 rfl) (rv_t rfl)) (fun _ _ h => h) fun w hb hs hB hkd => ?_
     have h := partR_0 (a := A.d) (l := l) (b := b) hc48
     exact ⟨⟨oa, l.length, oc, a43, n43, c43, ta, tn, tc, by rw [h]; rfl, by rw [h]; exact hs.three 60 43 1003 1001 1002 1003 (by decide) (by decide) (by decide) rfl rfl rfl (Ent.le_refl _) (Ent.le_refl _) (Ent.le_refl _)⟩, hb⟩
end Go.Proofs.Ytfbmkepogcimlaa

/-
  Activities with other samples: the reference.
-/


namespace Go.Proofs.Ytfbmkepogcimlaa
open Go Go.RowKit Hx
set_option linter.unusedVariables false
set_option linter.unusedSimpArgs false
set_option maxRecDepth 8000
/-- What is kept of an activity that was checked. -/
def Ckd (A : ActV) (nm : ByteArray) (sp st : Int) (sa : Option Addr) (sn sc : Nat) (la : Option Addr) (ln lc : Nat) (ta : Option Addr) (tn tc : Nat) : Prop :=
  (chkA A.d ≠ 0 ∧ nm = ByteArray.empty ∧ sp = 0 ∧ st = 0 ∧ (sa = none ∧ sn = 0 ∧ sc = 0) ∧ (la = none ∧ ln = 0 ∧ lc = 0) ∧ (ta = none ∧ tn = 0 ∧ tc = 0)) ∨
  (chkA A.d = 0 ∧ nm = A.name ∧ sp = A.sport ∧ st = A.start ∧ (sa = A.sa ∧ sn = A.sn ∧ sc = A.sc) ∧ (la = A.la ∧ ln = A.ln ∧ lc = A.lc) ∧ (ta = A.ta ∧ tn = A.tn ∧ tc = A.tc))
theorem outA_no {B : Nat} {w' : World} {r : ActD × Int} {er : Int} (h : r = (noA, er)) : OutA B w' r (.returned (.tuple #[.agg #[.string ByteArray.empty, .int .i64 0, .int .i64 0, .slice none 0 0, .slice none 0 0, .slice none 0 0], .int .i64 er])) := by
  subst h
  exact ⟨none, 0, 0, none, 0, 0, none, 0, 0, rfl, ((((Sat.nil _ _).nilRow 1003 _ _).nilRow 1002 _ _).nilRow 1001 _ _)⟩
end Go.Proofs.Ytfbmkepogcimlaa

/-
  Same: two activities that read alike.
-/

namespace Go.Proofs.Ytfbmkepogcimlaa
open Go Go.RowKit Hx
set_option linter.unusedVariables false
set_option linter.unusedSimpArgs false
set_option maxRecDepth 8000
end Go.Proofs.Ytfbmkepogcimlaa

/-
  Climbs: the best line of turns. No program stands here.
-/

namespace Go.Proofs.Ytfbmkepogcimlaa
set_option linter.unusedVariables false
theorem SmpOk.hgt {st : Int} {ss : List SmpR} (h : SmpOk st ss) {x : SmpR} (hx : x ∈ ss) : -100000 ≤ x.z ∧ x.z ≤ 100000 := (h.bd x hx).2.2.2.2.2.1
def betB (a b : Int × Int) : Bool := decide (b.1 < a.1) || (decide (a.1 = b.1) && decide (a.2 < b.2))
theorem betB_t {a b : Int × Int} (h : betB a b = true) : b.1 < a.1 ∨ (a.1 = b.1 ∧ a.2 < b.2) := by
  unfold betB at h; simp at h; exact h
def pickB (a b : Int × Int) : Int × Int := if betB a b = true then a else b
theorem pickB_t {a b : Int × Int} (h : betB a b = true) : pickB a b = a := if_pos h
theorem pickB_f {a b : Int × Int} (h : ¬betB a b = true) : pickB a b = b := if_neg h
theorem pickB_bd {a b : Int × Int} {L U m M : Int} (ha : L ≤ a.1 ∧ a.1 ≤ U ∧ m ≤ a.2 ∧ a.2 ≤ M) (hb : L ≤ b.1 ∧ b.1 ≤ U ∧ m ≤ b.2 ∧ b.2 ≤ M) : L ≤ (pickB a b).1 ∧ (pickB a b).1 ≤ U ∧ m ≤ (pickB a b).2 ∧ (pickB a b).2 ≤ M := by
  unfold pickB; split <;> assumption
/-- Up, down and now; one sample more. -/
structure Clm where
  u : Int × Int
  d : Int × Int
  o : Int × Int
def Clm.on (s : Clm) (z : Int) : Int × Int := pickB (s.d.1 - z, s.d.2) (s.u.1 + z, s.u.2)
def Clm.next (th : Int) (s : Clm) (x : SmpR) : Clm :=
  ⟨pickB ((s.on x.z).1 - th - x.z, (s.on x.z).2 + 1) s.u, pickB ((s.on x.z).1 - th + x.z, (s.on x.z).2 + 1) s.d, s.on x.z⟩
def Clm.init (f : Int) : Clm := ⟨(-f, 0), (f, 0), (0, 0)⟩
def clmK (th f : Int) (ss : List SmpR) (k : Nat) : Clm := (ss.take k).foldl (Clm.next th) (Clm.init f)
theorem clmK_zero (th f : Int) (ss : List SmpR) : clmK th f ss 0 = Clm.init f := rfl
theorem clmK_succ {th f : Int} {ss : List SmpR} {k : Nat} {x : SmpR} (hx : ss[k]? = some x) : clmK th f ss (k + 1) = Clm.next th (clmK th f ss k) x := by
  unfold clmK; rw [take_succ_get hx, List.foldl_append]; rfl
def Clm.Bd (n : Int) (s : Clm) : Prop := (-n ≤ s.u.1 ∧ s.u.1 ≤ n ∧ 0 ≤ s.u.2 ∧ s.u.2 ≤ n) ∧ (-n ≤ s.d.1 ∧ s.d.1 ≤ n ∧ 0 ≤ s.d.2 ∧ s.d.2 ≤ n) ∧ (-n ≤ s.o.1 ∧ s.o.1 ≤ n ∧ 0 ≤ s.o.2 ∧ s.o.2 ≤ n)
theorem Clm.on_bd {n z : Int} {s : Clm} (h : s.Bd n) (hz : -100000 ≤ z ∧ z ≤ 100000) : -(n + 100000) ≤ (s.on z).1 ∧ (s.on z).1 ≤ n + 100000 ∧ 0 ≤ (s.on z).2 ∧ (s.on z).2 ≤ n := by
  obtain ⟨h1, h2, h3⟩ := h
  exact pickB_bd (by dsimp only; omega) (by dsimp only; omega)
theorem Clm.next_bd {n th : Int} {s : Clm} {x : SmpR} (h : s.Bd n) (hz : -100000 ≤ x.z ∧ x.z ≤ 100000) (ht : 0 ≤ th ∧ th ≤ 200000) : (s.next th x).Bd (n + 400000) := by
  have ho := Clm.on_bd h hz
  obtain ⟨h1, h2, h3⟩ := h
  exact ⟨pickB_bd (by dsimp only; omega) (by omega), pickB_bd (by dsimp only; omega) (by omega), by show _ ≤ (s.on x.z).1 ∧ (s.on x.z).1 ≤ _ ∧ _ ≤ (s.on x.z).2 ∧ (s.on x.z).2 ≤ _; omega⟩
theorem clmK_bd {th f : Int} {ss : List SmpR} (hf : -100000 ≤ f ∧ f ≤ 100000) (hz : ∀ x ∈ ss, -100000 ≤ x.z ∧ x.z ≤ 100000) (ht : 0 ≤ th ∧ th ≤ 200000) : ∀ k, k ≤ ss.length → (clmK th f ss k).Bd (100000 + 400000 * k)
  | 0, _ => by rw [clmK_zero]; refine ⟨⟨?_, ?_, ?_, ?_⟩, ⟨?_, ?_, ?_, ?_⟩, ⟨?_, ?_, ?_, ?_⟩⟩ <;> (simp only [Clm.init]; omega)
  | k + 1, hk => by
    have hx : ss[k]? = some ss[k] := List.getElem?_eq_getElem (by omega)
    rw [clmK_succ hx]
    have := Clm.next_bd (clmK_bd hf hz ht k (by omega)) (hz _ (List.mem_of_getElem? hx)) ht
    rw [show (100000 + 400000 * ((k + 1 : Nat) : Int)) = 100000 + 400000 * (k : Int) + 400000 by omega]
    exact this
def zAt (ss : List SmpR) (i : Nat) : Int := (ss[i]?).elim 0 (·.z)
theorem zAt_eq {ss : List SmpR} {i : Nat} {x : SmpR} (h : ss[i]? = some x) : zAt ss i = x.z := by simp [zAt, h]
def zigR (th : Int) (ss : List SmpR) : Int × Int × Int :=
  let o := (clmK th (zAt ss 0) ss.tail (ss.length - 1)).o
  let all := o.1 + th * o.2
  let g := zAt ss (ss.length - 1) - zAt ss 0
  (Int.tdiv (all + g) 2, Int.tdiv (all - g) 2, o.2)
def climbR (a : ActD) (th : Int) : (Int × Int × Int) × Int :=
  if chkA a ≠ 0 then ((0, 0, 0), chkA a) else if ¬(0 ≤ th ∧ th ≤ 200000) then ((0, 0, 0), 9) else if a.ss.length < 2 then ((0, 0, 0), 0) else (zigR th a.ss, 0)
theorem climbR_e {a : ActD} {th : Int} (h : chkA a ≠ 0) : climbR a th = ((0, 0, 0), chkA a) := if_pos h
theorem climbR_9 {a : ActD} {th : Int} (h : chkA a = 0) (h1 : ¬(0 ≤ th ∧ th ≤ 200000)) : climbR a th = ((0, 0, 0), 9) := by unfold climbR; rw [if_neg (by simp [h]), if_pos h1]
theorem climbR_0 {a : ActD} {th : Int} (h : chkA a = 0) (h1 : 0 ≤ th ∧ th ≤ 200000) (h2 : a.ss.length < 2) : climbR a th = ((0, 0, 0), 0) := by unfold climbR; rw [if_neg (by simp [h]), if_neg (by simp [h1]), if_pos h2]
theorem climbR_z {a : ActD} {th : Int} (h : chkA a = 0) (h1 : 0 ≤ th ∧ th ≤ 200000) (h2 : ¬a.ss.length < 2) : climbR a th = (zigR th a.ss, 0) := by unfold climbR; rw [if_neg (by simp [h]), if_neg (by simp [h1]), if_neg h2]
end Go.Proofs.Ytfbmkepogcimlaa
