/-
  Places: program and reference; MatchPlacesMatchSpec.
-/
import Derived.DataElems
import Derived.Test.YtjflbnbofedlkaaXmA
import Derived.Test.YtjflbnbofedlkaaXmB
import Derived.Test.YtjflbnbofedlkaaXmC
import Derived.Test.YtjflbnbofedlkaaXmD
import Derived.Test.YtjflbnbofedlkaaXmE
import Derived.Test.YtjflbnbofedlkaaXmF
import Derived.Test.YtjflbnbofedlkaaXmG




namespace Go.Proofs.Ytjflbnbofedlkaa
open Go Go.RowKit Hx
set_option linter.unusedVariables false
set_option linter.unusedSimpArgs false
set_option maxRecDepth 8000
namespace Hx
theorem r_faO2 {P : Program} {N : Fr} {B : Nat} {w0 : World} {al : AL} {H : HL} {ty : TypeId} {α : Type} {E : Enc α} {a : Option Addr} {n cap : Nat} {xs : List α} {x : Operand} {s : TypeId} {f o1 o2 o id size : Nat} {e : TypeId} {i : Nat} {y : α} (hp : ev al x = some (.pointer ((a.map (·.add (i * E.size))).map (·.add o1)))) (hH : look H id = some (.row a n cap (E.enc xs) e size)) (hz : size = E.size) (hx : xs[i]? = some y) (hf : Fld P s f o2) (ho : o1 + o2 = o) :
    Runs P N B w0 (.fieldAddr s x f) ty al H (.pointer ((a.map (·.add (i * E.size))).map (·.add o))) := fun a0 w hst => by
  have hr := hst.sat.rd hH hz
  have h0 := hr.isSome (by have := hr.len; have := (List.getElem?_eq_some_iff.1 hx).1; omega)
  have h := r_faw (P := P) (N := N) (B := B) (w0 := w0) (ty := ty) hp (by cases a <;> simp_all) hf a0 w hst
  rw [show ((a.map (·.add (i * E.size))).map (·.add o)) = (((a.map (·.add (i * E.size))).map (·.add o1)).map (·.add o2)) by cases a <;> simp [Addr.add_add, ← ho, Nat.add_assoc]]
  exact h
end Hx
theorem strK : KeyT Try.prog 9 Value.string := KeyT.basic Try.underlying9 (fun a => trivial) (fun a b h => by cases h; rfl)
theorem mk122 : MapK Try.prog 122 Value.string encScore.val zS := ⟨_, _, Try.underlying122, strK, fun _ => Try.zeroValue24 _⟩
theorem mk127 : MapK Try.prog 127 Value.string Value.bool false := ⟨_, _, Try.underlying127, strK, fun _ => Try.zeroValue4 _⟩
theorem ref5_places (a : Option Addr) (n c : Nat) (xs : List ScoreR) (w : World) (hx : Rd encScore w.heap.size w a n c xs) (hn : n ≤ 5000) :
    Calls Try.prog 43 #[.slice a n c] w fun e w' => ∃ b m k, e = .returned (.slice b m k) ∧ Fresh encPlace 32 w w' b m k (placesS xs) := by
  have hln := hx.len
  obtain ⟨S, hS⟩ : ∃ S, S = sortL sclt xs := ⟨_, rfl⟩
  obtain ⟨F, hF⟩ : ∃ F, F = firsts S [] := ⟨_, rfl⟩
  have hFl : F.length ≤ S.length := by rw [hF]; exact (firsts_sub _ _).length_le
  have hSl : S.length = n := by rw [hS, sortL_len, hln]
  refine enterQ (N := 57) (C := fun _ => True) (H := []) (B := w.heap.size) (args := [_]) Try.func43 rfl rfl rfl (Nat.le_refl _) (Sat.nil _ _) fun Q hQ => ?_
  refine wp_seq' fun K1 hK1 => ?_
  refine wp_reg ?_
  refine ol_r (r_assign rfl) rfl ?_
  refine ol_nil (to_k0 (fun _ _ h => h) (hK1 _ _ _ _ _ ?_))
  clear hK1
  refine wp_seq' fun K2 hK2 => ?_
  refine wp_reg ?_
  refine ol_nilrow 3 32 4 ?_
  refine ol_r (r_assign rfl) rfl ?_
  refine ol_nil (to_k0 (fun _ _ h => h) (hK2 _ _ _ _ _ ?_))
  clear hK2
  refine wp_seq' fun K3 hK3 => ?_
  refine wp_reg ?_
  refine ol_mkmapE (Value.string) (Value.bool) 9 rfl fun b9 => ?_
  refine ol_r (r_assign rfl) rfl ?_
  refine ol_nil (to_k0 (fun _ _ h => h) (hK3 _ _ _ _ _ ?_))
  clear hK3
  refine wp_seq' fun K4 hK4 => ?_
  refine wp_seq' fun K5 hK5 => ?_
  refine wp_reg ?_
  refine ol_r (r_move rfl) rfl ?_
  refine ol_call rfl rfl cb77 rfl (fun w1 hb1 hs1 hB1 => Calls.mono (ref5_sorted _ _ _ _ xs _ (Nat.le_refl _) (hx.at hb1 hB1) (by omega)) ?_)
  rintro e w2 ⟨a11, n11, c11, rfl, hf11⟩
  refine After.fresh (id := 11) rfl hb1 hs1 hB1 hf11 ?_
  have hl11 := hf11.len; clear hf11 hB1 hs1 hb1 w2 w1
  rw [← hS] at hl11 ⊢
  refine ol_r (r_len rfl sl22) rfl ?_
  refine ol_r (r_move rfl) rfl ?_
  refine ol_nil (to_k0 (fun _ _ h => h) (hK5 _ _ _ _ _ ?_))
  clear hK5
  refine wp_block' ?_
  apply wp_loopM (σ := Nat × List (ByteArray × Bool) × Nat × Option Addr × Nat) (fun s => s.1 ≤ n11 ∧ s.2.2.1 ≤ F.length ∧ ∃ seen, SeenB s.2.1 seen ∧ firsts (S.drop s.1) seen = F.drop s.2.2.1) (fun s => [(13, .int .i64 s.1), (3, .slice s.2.2.2.1 s.2.2.1 s.2.2.2.2)]) [(2, _), (4, _), (11, _), (12, _)] (fun s => [(3, .row s.2.2.2.1 s.2.2.1 s.2.2.2.2 (encPlace.enc (placesN F s.2.2.1)) 32 4), (9, .ob b9 (MapO (pEnc Value.string Value.bool s.2.1)))]) [(11, _)] (fun s => n11 - s.1) ((0, [], 0, none, 0))
  ·try dsimp only
   exact ⟨Nat.zero_le _, Nat.zero_le _, [], SeenB.nil, by rw [hF]; rfl⟩
  ·exact (sub_cons rfl (sub_cons rfl sub_nil))
  ·exact (sub_cons rfl (sub_cons rfl (sub_cons rfl (sub_cons rfl sub_nil))))
  ·exact (subH_row rfl (by first | (dsimp only; rfl; done) | (rfl; done) | (dsimp only; done)) (subH_same rfl subH_nil))
  ·exact (subH_same rfl subH_nil)
  ·rintro ⟨k, D, j, oa, oc⟩ ⟨hk, hj, seen, hSe, hP⟩
   dsimp only at hk hj hSe hP ⊢
   have hpl := placesN_len hj
   intro K6 hK6
   refine wp_seq' fun K7 hK7 => ?_
   refine wp_reg ?_
   refine ol_r (r_lss rfl rfl) rfl ?_
   refine ol_nil (to_k0 (fun _ _ h => h) (hK7 _ _ _ _ _ ?_))
   clear hK7
   refine wp_seq' fun K8 hK8 => ?_
   first | refine wp_condD rfl (fun hc14 => ?_) (fun hc14 => ?_) | refine wp_condN rfl (fun hc14 => ?_) (fun hc14 => ?_) | refine wp_condNB rfl (fun hc14 => ?_) (fun hc14 => ?_) | refine wp_cond' rfl (fun hc14 => ?_) (fun hc14 => ?_)
   ·refine wp_skip' (to_k0 (fun _ _ h => h) (hK8 _ _ _ _ _ ?_))
    clear hK8
    refine wp_seq' fun K9 hK9 => ?_
    refine wp_block' ?_
    refine wp_seq' fun K10 hK10 => ?_
    refine wp_reg ?_
    refine ol_ixo (id := 11) encScore _ rfl rfl rfl rfl sl22 (by omega) rfl fun x15 hx15 => ?_
    try simp only [Int.toNat_natCast] at hx15
    try simp only [Int.toNat_natCast] at hx15
    refine ol_r (r_ldw rfl (fun w1 hb1 hs1 hB1 => ld_own (id := 11) hs1 rfl rfl ty24 hx15)) rfl ?_
    refine ol_alloc 6 z24 rfl fun b6 => ?_
    refine ol_store (id := 6) rfl rfl rfl rfl sz24 rfl rfl (by first | decide | exact Nat.zero_lt_succ _ | simp) ?_
    refine ol_nil (to_k0 (fun _ _ h => h) (hK10 _ _ _ _ _ ?_))
    clear hK10
    refine wp_seq' fun K11 hK11 => ?_
    refine wp_seq' fun K12 hK12 => ?_
    refine wp_reg ?_
    refine ol_r (r_move rfl) rfl ?_
    refine ol_r (r_fa (o' := 0) rfl fl24_0 rfl) rfl ?_
    refine ol_r (r_ld (id := 6) rfl rfl rfl sc9) rfl ?_
    refine ol_r (r_look1 (K := Value.string) (V := Value.bool) (z := false) (id := 9) rfl rfl rfl mk127) rfl ?_
    refine ol_nil (to_k0 (fun _ _ h => h) (hK12 _ _ _ _ _ ?_))
    clear hK12
    first | refine wp_condD rfl (fun hc20 => ?_) (fun hc20 => ?_) | refine wp_condN rfl (fun hc20 => ?_) (fun hc20 => ?_) | refine wp_condNB rfl (fun hc20 => ?_) (fun hc20 => ?_) | refine wp_cond' rfl (fun hc20 => ?_) (fun hc20 => ?_)
    ·refine wp_exit' (to_k0 (fun _ _ h => h) (hK9 _ _ _ _ _ ?_))
     clear hK9
     refine wp_reg ?_
     refine ol_r (r_add rfl rfl (by omega)) rfl ?_
     refine ol_r (r_move rfl) rfl ?_
     refine ol_nil (to_k0 (fun _ _ h => h) (hK6 ((k + 1, D, j, _, _)) _ _ ?_ ?_ (sub_cons rfl (sub_cons rfl sub_nil)) (sub_cons rfl (sub_cons rfl (sub_cons rfl (sub_cons rfl sub_nil)))) (by exact (subH_row rfl (by first | (dsimp only; first | rfl | (rw [placesN_succ hf1, Enc.enc_append]; rfl); done) | (first | rfl | (rw [placesN_succ hf1, Enc.enc_append]; rfl); done) | (dsimp only; done)) (subH_same rfl subH_nil))) (subH_same rfl subH_nil)))
     ·try dsimp only
      exact ⟨by omega, hj, seen, hSe, firsts_skip hP hx15 (by rw [hSe.get] at hc20; simpa using hc20)⟩
     ·try dsimp only
      omega
    ·refine wp_skip' (to_k0 (fun _ _ h => h) (hK11 _ _ _ _ _ ?_))
     clear hK11
     refine wp_seq' fun K13 hK13 => ?_
     refine wp_reg ?_
     obtain ⟨hf1, hf2⟩ := firsts_take hP hx15 (by rw [hSe.get] at hc20; simpa using hc20)
     have hjl := (List.getElem?_eq_some_iff.1 hf1).1
     refine ol_r (r_move rfl) rfl ?_
     refine ol_r (r_fa (o' := 0) rfl fl24_0 rfl) rfl ?_
     refine ol_r (r_ld (id := 6) rfl rfl rfl sc9) rfl ?_
     refine ol_mapset (K := Value.string) (V := Value.bool) (z := false) (id := 9) rfl rfl rfl rfl mk127 trivial ?_
     refine ol_nil (to_k0 (fun _ _ h => h) (hK13 _ _ _ _ _ ?_))
     clear hK13
     refine wp_seq' fun K14 hK14 => ?_
     refine wp_reg ?_
     refine ol_r (r_move rfl) rfl ?_
     refine ol_r (r_len rfl sl25) rfl ?_
     refine ol_r (r_add rfl rfl (by omega)) rfl ?_
     refine ol_r (r_assign rfl) rfl ?_
     refine ol_nil (to_k0 (fun _ _ h => h) (hK14 _ _ _ _ _ ?_))
     clear hK14
     apply wp_seq_cutM (σ := Unit) (fun s => True) (fun s => [(7, .int .i64 (rankN F j))]) [(2, _), (3, _), (4, _), (6, _), (11, _), (12, _), (13, _)] (fun s => []) [(3, _), (6, _), (9, _), (11, _)]
     ·exact (sub_cons rfl (sub_cons rfl (sub_cons rfl (sub_cons rfl (sub_cons rfl (sub_cons rfl (sub_cons rfl sub_nil)))))))
     ·exact (subH_same rfl (subH_same rfl (subH_same rfl (subH_same rfl subH_nil))))
     ·intro K15 hK15
      refine wp_seq' fun K16 hK16 => ?_
      refine wp_reg ?_
      refine ol_r (r_move rfl) rfl ?_
      refine ol_r (r_len rfl sl25) rfl ?_
      refine ol_r (r_assign rfl) rfl ?_
      refine ol_nil (to_k0 (fun _ _ h => h) (hK16 _ _ _ _ _ ?_))
      clear hK16
      refine wp_seq' fun K17 hK17 => ?_
      refine wp_regq (by kernel_rfl) (by kernel_rfl) ?_
      refine ql_r (r_move rfl) rfl ?_
      refine ql_r (r_gtr rfl rfl) rfl ?_
      refine ql_r (r_move rfl) rfl ?_
      refine ql_split (d := 31) rfl (fun hs31 => ?_) (fun hs31 => ?_)
      ·have phs31 := hs31; try simp only [decide_eq_true_eq, decide_eq_false_iff_not, Bool.not_eq_true', Bool.not_eq_false', Bool.not_true, Bool.not_false] at phs31
       refine ql_g rfl rfl hs31 ?_
       refine ql_r (r_move rfl) rfl ?_
       refine ql_g rfl rfl hs31 ?_
       refine ql_r (r_move rfl) rfl ?_
       refine ql_g rfl rfl hs31 ?_
       refine ql_r (r_sub rfl rfl (by omega)) rfl ?_
       refine ql_g rfl rfl hs31 ?_
       refine ql_ixo (id := 3) encPlace _ rfl rfl rfl rfl sl25 (by omega) (by omega) rfl fun x35 hx35 => ?_
       try simp only [Int.toNat_natCast] at hx35
       try simp only [Int.toNat_natCast] at hx35
       refine ql_g rfl rfl hs31 ?_
       refine ql_r (r_faO (id := 3) rfl rfl rfl hx35 fl32_1) rfl ?_
       refine ql_g rfl rfl hs31 ?_
       refine ql_r (r_faO2 (id := 3) (o := 3) rfl rfl rfl hx35 fl24_2 rfl) rfl ?_
       refine ql_g rfl rfl hs31 ?_
       refine ql_r (r_ldw rfl (fun w1 hb1 hs1 hB1 => ld_ownF (id := 3) (o := 3) hs1 rfl rfl sc3 hx35 rfl)) rfl ?_
       refine ql_g rfl rfl hs31 ?_
       refine ql_r (r_fa (o' := 2) rfl fl24_2 rfl) rfl ?_
       refine ql_g rfl rfl hs31 ?_
       refine ql_r (r_ld (id := 6) rfl rfl rfl sc3) rfl ?_
       refine ql_g rfl rfl hs31 ?_
       refine ql_r (r_eql rfl rfl) rfl ?_
       refine ql_r (r_pickT rfl hs31 rfl) rfl ?_
       refine ql_nil (to_k0 (fun _ _ h => h) (hK17 _ _ _ _ _ ?_))
       clear hK17
       first | refine wp_condD rfl (fun hc42 => ?_) (fun hc42 => ?_) | refine wp_condN rfl (fun hc42 => ?_) (fun hc42 => ?_) | refine wp_condNB rfl (fun hc42 => ?_) (fun hc42 => ?_) | refine wp_cond' rfl (fun hc42 => ?_) (fun hc42 => ?_)
       ·refine wp_reg ?_
        refine ol_r (r_move rfl) rfl ?_
        refine ol_r (r_move rfl) rfl ?_
        refine ol_r (r_sub rfl rfl (by omega)) rfl ?_
        refine ol_ixo (id := 3) encPlace _ rfl rfl rfl rfl sl25 (by omega) rfl fun x46 hx46 => ?_
        try simp only [Int.toNat_natCast] at hx46
        try simp only [Int.toNat_natCast] at hx46
        refine ol_r (r_faO (id := 3) rfl rfl rfl hx46 fl32_0) rfl ?_
        refine ol_r (r_ldw rfl (fun w1 hb1 hs1 hB1 => ld_ownF (id := 3) (o := 0) hs1 rfl rfl sc3 hx46 rfl)) rfl ?_
        refine ol_r (r_assign rfl) rfl ?_
        refine ol_nil (to_k0 (fun _ _ h => h) (hK15 (()) _ _ ?_ (sub_cons (by first | rfl | (first | (rw [rk_same hj (by omega) hf1 hx35 hx46 hc42]; rfl) | (rw [rk_new hj (by omega) hf1 hx35 hc42]; rfl) | (rw [rk_first (F := F) (j := j) (by omega)]; rfl))) sub_nil) (sub_cons rfl (sub_cons rfl (sub_cons rfl (sub_cons rfl (sub_cons rfl (sub_cons rfl (sub_cons rfl sub_nil))))))) subH_nil (subH_same rfl (subH_same rfl (subH_same rfl (subH_same rfl subH_nil))))))
        try dsimp only
        all_goals trivial
       ·refine wp_skip' (to_k0 (fun _ _ h => h) (hK15 (()) _ _ ?_ (sub_cons (by first | rfl | (first | (rw [rk_same hj (by omega) hf1 hx35 hx46 hc42]; rfl) | (rw [rk_new hj (by omega) hf1 hx35 hc42]; rfl) | (rw [rk_first (F := F) (j := j) (by omega)]; rfl))) sub_nil) (sub_cons rfl (sub_cons rfl (sub_cons rfl (sub_cons rfl (sub_cons rfl (sub_cons rfl (sub_cons rfl sub_nil))))))) subH_nil (subH_same rfl (subH_same rfl (subH_same rfl (subH_same rfl subH_nil))))))
        try dsimp only
        all_goals trivial
      ·have phs31 := hs31; try simp only [decide_eq_true_eq, decide_eq_false_iff_not, Bool.not_eq_true', Bool.not_eq_false', Bool.not_true, Bool.not_false] at phs31
       refine ql_s rfl rfl hs31 rfl ?_
       refine ql_s rfl rfl hs31 rfl ?_
       refine ql_s rfl rfl hs31 rfl ?_
       refine ql_s rfl rfl hs31 rfl ?_
       refine ql_s rfl rfl hs31 rfl ?_
       refine ql_s rfl rfl hs31 rfl ?_
       refine ql_s rfl rfl hs31 rfl ?_
       refine ql_s rfl rfl hs31 rfl ?_
       refine ql_s rfl rfl hs31 rfl ?_
       refine ql_s rfl rfl hs31 rfl ?_
       refine ql_r (r_pickF rfl hs31 rfl) rfl ?_
       refine ql_nil (to_k0 (fun _ _ h => h) (hK17 _ _ _ _ _ ?_))
       clear hK17
       refine wp_condF rfl ?_
       refine wp_skip' (to_k0 (fun _ _ h => h) (hK15 (()) _ _ ?_ (sub_cons (by first | rfl | (first | (rw [rk_same hj (by omega) hf1 hx35 hx46 hc42]; rfl) | (rw [rk_new hj (by omega) hf1 hx35 hc42]; rfl) | (rw [rk_first (F := F) (j := j) (by omega)]; rfl))) sub_nil) (sub_cons rfl (sub_cons rfl (sub_cons rfl (sub_cons rfl (sub_cons rfl (sub_cons rfl (sub_cons rfl sub_nil))))))) subH_nil (subH_same rfl (subH_same rfl (subH_same rfl (subH_same rfl subH_nil))))))
       try dsimp only
       all_goals trivial
     ·rintro s hI
      refine wp_reg ?_
      refine ol_r (r_move rfl) rfl ?_
      refine ol_r (r_move rfl) rfl ?_
      refine ol_r (r_lda (id := 6) (n := 3) rfl rfl rfl ag24) rfl ?_
      refine ol_r (r_build rfl (fun _ => bd32_0_1 _ _ _ _ _)) rfl ?_
      refine ol_bs1 53 rfl rfl rw25 rfl rfl rfl fun a53 => ?_
      refine ol_append1 (id := 3) (id2 := 53) rfl rfl rfl rfl rfl rw25 (by omega) rfl fun a54 c54 => ?_
      refine ol_r (r_assign rfl) rfl ?_
      refine ol_nil (to_k0 (fun _ _ h => h) (hK9 _ _ _ _ _ ?_))
      clear hK9
      refine wp_reg ?_
      refine ol_r (r_add rfl rfl (by omega)) rfl ?_
      refine ol_r (r_move rfl) rfl ?_
      refine ol_nil (to_k0 (fun _ _ h => h) (hK6 ((k + 1, pS D x15.name true, j + 1, _, _)) _ _ ?_ ?_ (sub_cons rfl (sub_cons rfl sub_nil)) (sub_cons rfl (sub_cons rfl (sub_cons rfl (sub_cons rfl sub_nil)))) (by exact (subH_row rfl (by first | (dsimp only; first | rfl | (rw [placesN_succ hf1, Enc.enc_append]; rfl); done) | (first | rfl | (rw [placesN_succ hf1, Enc.enc_append]; rfl); done) | (dsimp only; done)) (subH_same rfl subH_nil))) (subH_same rfl subH_nil)))
      ·try dsimp only
       exact ⟨by omega, by have := (List.getElem?_eq_some_iff.1 hf1).1; omega, _, hSe.put _, hf2⟩
      ·try dsimp only
       omega
   ·refine wp_exit' (to_k0 (fun _ _ h => h) (hK4 _ _ _ _ _ ?_))
    clear hK4
    refine wp_seq' fun K18 hK18 => ?_
    refine wp_reg ?_
    refine ol_r (r_move rfl) rfl ?_
    refine ol_r (r_assign rfl) rfl ?_
    refine ol_nil (to_k0 (fun _ _ h => h) (hK18 _ _ _ _ _ ?_))
    clear hK18
    refine hQ.ret (rvs1 (rv_t rfl)) (fun _ _ h => h) fun w hb hs hB hkd => ?_
    have hjl := firsts_done hP (by omega)
    obtain rfl : j = F.length := by omega
    exact ⟨_, _, _, rfl, hb, by rw [show placesS xs = placesN F F.length by rw [hF, hS]; rfl]; exact hs.ok 3 _ rfl⟩
theorem ref5_Places (a : Option Addr) (n c : Nat) (xs : List ScoreR) (w : World) (hx : Rd encScore w.heap.size w a n c xs) (hnm : ∀ x ∈ xs, x.name.size ≤ 9223372036854775807) :
    Calls Try.prog 9 #[.slice a n c] w fun e w' => ∃ b m k, e = .returned (.tuple #[.slice b m k, .int .i64 (placesR xs).2]) ∧ Fresh encPlace 32 w w' b m k (placesR xs).1 := by
  have hsn := hx.len
  have hsf := hx.fit
  refine enterQ (N := 24) (C := fun _ => True) (H := []) (B := w.heap.size) (args := [_]) Try.func9 rfl rfl rfl (Nat.le_refl _) (Sat.nil _ _) fun Q hQ => ?_
  refine wp_seq' fun K1 hK1 => ?_
  refine wp_reg ?_
  refine ol_r (r_assign rfl) rfl ?_
  refine ol_r (r_assign rfl) rfl ?_
  refine ol_nil (to_k0 (fun _ _ h => h) (hK1 _ _ _ _ _ ?_))
  clear hK1
  refine wp_seq' fun K2 hK2 => ?_
  refine wp_seq' fun K3 hK3 => ?_
  refine wp_reg ?_
  refine ol_r (r_move rfl) rfl ?_
  refine ol_r (r_len rfl sl22) rfl ?_
  refine ol_r (r_gtr rfl rfl) rfl ?_
  refine ol_nil (to_k0 (fun _ _ h => h) (hK3 _ _ _ _ _ ?_))
  clear hK3
  first | refine wp_condD rfl (fun hc9 => ?_) (fun hc9 => ?_) | refine wp_condN rfl (fun hc9 => ?_) (fun hc9 => ?_) | refine wp_condNB rfl (fun hc9 => ?_) (fun hc9 => ?_) | refine wp_cond' rfl (fun hc9 => ?_) (fun hc9 => ?_)
  ·refine wp_seq' fun K4 hK4 => ?_
   refine wp_reg ?_
   refine ol_r (r_assign rfl) rfl ?_
   refine ol_r (r_assign rfl) rfl ?_
   refine ol_nil (to_k0 (fun _ _ h => h) (hK4 _ _ _ _ _ ?_))
   clear hK4
   refine hQ.ret (rvs2 (rv_t rfl) (rv_t rfl)) (fun _ _ h => h) fun w hb hs hB hkd => ?_
   have h1 := placesR_3 (l := xs) (by omega)
   exact ⟨none, 0, 0, by rw [h1], by rw [h1]; exact Fresh.nil hb⟩
  ·refine wp_skip' (to_k0 (fun _ _ h => h) (hK2 _ _ _ _ _ ?_))
   clear hK2
   refine wp_seq' fun K5 hK5 => ?_
   refine wp_seq' fun K6 hK6 => ?_
   refine wp_reg ?_
   refine ol_r (r_move rfl) rfl ?_
   refine ol_r (r_len rfl sl22) rfl ?_
   refine ol_r (r_move rfl) rfl ?_
   refine ol_nil (to_k0 (fun _ _ h => h) (hK6 _ _ _ _ _ ?_))
   clear hK6
   refine wp_block' ?_
   apply wp_loopM (σ := Nat) (fun s => s ≤ n ∧ chkE (fun _ x => chkEn x) none xs = chkE (fun _ x => chkEn x) (ahead xs s) (xs.drop s)) (fun s => [(12, .int .i64 s)]) [(0, _), (10, _), (11, _)] (fun s => []) [] (fun s => n - s) (0)
   ·try dsimp only
    exact ⟨Nat.zero_le _, chkE_start _ _⟩
   ·exact (sub_cons rfl sub_nil)
   ·exact (sub_cons rfl (sub_cons rfl (sub_cons rfl sub_nil)))
   ·exact subH_nil
   ·exact subH_nil
   ·rintro k ⟨hk, hP⟩
    intro K7 hK7
    refine wp_seq' fun K8 hK8 => ?_
    refine wp_reg ?_
    refine ol_r (r_lss rfl rfl) rfl ?_
    refine ol_nil (to_k0 (fun _ _ h => h) (hK8 _ _ _ _ _ ?_))
    clear hK8
    refine wp_seq' fun K9 hK9 => ?_
    first | refine wp_condD rfl (fun hc13 => ?_) (fun hc13 => ?_) | refine wp_condN rfl (fun hc13 => ?_) (fun hc13 => ?_) | refine wp_condNB rfl (fun hc13 => ?_) (fun hc13 => ?_) | refine wp_cond' rfl (fun hc13 => ?_) (fun hc13 => ?_)
    ·refine wp_skip' (to_k0 (fun _ _ h => h) (hK9 _ _ _ _ _ ?_))
     clear hK9
     refine wp_seq' fun K10 hK10 => ?_
     refine wp_block' ?_
     refine wp_seq' fun K11 hK11 => ?_
     refine wp_reg ?_
     refine ol_ixr hx rfl rfl sl22 (by omega) rfl fun x14 hx14 => ?_
     try simp only [Int.toNat_natCast] at hx14
     refine ol_r (r_ldw rfl (fun w1 hb1 hs1 hB1 => Rd.loads hx ty24 hx14 hb1)) rfl ?_
     refine ol_alloc 5 z24 rfl fun b5 => ?_
     refine ol_store (id := 5) rfl rfl rfl rfl sz24 rfl rfl (by first | decide | exact Nat.zero_lt_succ _ | simp) ?_
     refine ol_nil (to_k0 (fun _ _ h => h) (hK11 _ _ _ _ _ ?_))
     clear hK11
     refine wp_seq' fun K12 hK12 => ?_
     refine wp_reg ?_
     refine ol_r (r_lda (id := 5) (n := 3) rfl rfl rfl ag24) rfl ?_
     refine ol_call rfl rfl cb11 rfl (fun w1 hb1 hs1 hB1 => Calls.mono (ref5_CheckEntry x14 _ (hnm _ (List.mem_of_getElem? hx14))) ?_)
     rintro e w2 ⟨rfl, hb2⟩
     refine After.below rfl hb1 hs1 hB1 hb2 ?_
     clear hb2 hB1 hs1 hb1 w2 w1
     refine ol_r (r_assign rfl) rfl ?_
     refine ol_nil (to_k0 (fun _ _ h => h) (hK12 _ _ _ _ _ ?_))
     clear hK12
     refine wp_seq' fun K13 hK13 => ?_
     refine wp_reg ?_
     refine ol_r (r_move rfl) rfl ?_
     refine ol_r (r_neq rfl rfl) rfl ?_
     refine ol_nil (to_k0 (fun _ _ h => h) (hK13 _ _ _ _ _ ?_))
     clear hK13
     first | refine wp_condD rfl (fun hc19 => ?_) (fun hc19 => ?_) | refine wp_condN rfl (fun hc19 => ?_) (fun hc19 => ?_) | refine wp_condNB rfl (fun hc19 => ?_) (fun hc19 => ?_) | refine wp_cond' rfl (fun hc19 => ?_) (fun hc19 => ?_)
     ·refine wp_seq' fun K14 hK14 => ?_
      refine wp_reg ?_
      refine ol_r (r_move rfl) rfl ?_
      refine ol_r (r_assign rfl) rfl ?_
      refine ol_r (r_assign rfl) rfl ?_
      refine ol_nil (to_k0 (fun _ _ h => h) (hK14 _ _ _ _ _ ?_))
      clear hK14
      refine hQ.ret (rvs2 (rv_t rfl) (rv_t rfl)) (fun _ _ h => h) fun w hb hs hB hkd => ?_
      have h2 := chkE_bad hP hx14 rfl hc19
      have h1 := placesR_e (l := xs) (by omega) (by rw [h2]; exact hc19)
      exact ⟨none, 0, 0, by rw [h1, h2], by rw [h1]; exact Fresh.nil hb⟩
     ·refine wp_skip' (to_k0 (fun _ _ h => h) (hK10 _ _ _ _ _ ?_))
      clear hK10
      refine wp_reg ?_
      refine ol_r (r_add rfl rfl (by omega)) rfl ?_
      refine ol_r (r_move rfl) rfl ?_
      refine ol_nil (to_k0 (fun _ _ h => h) (hK7 (k + 1) _ _ ?_ ?_ (sub_cons rfl sub_nil) (sub_cons rfl (sub_cons rfl (sub_cons rfl sub_nil))) (by exact subH_nil) subH_nil))
      ·try dsimp only
       exact ⟨by omega, chkE_next hP hx14 (Decidable.not_not.1 hc19)⟩
      ·try dsimp only
       omega
    ·refine wp_exit' (to_k0 (fun _ _ h => h) (hK5 _ _ _ _ _ ?_))
     clear hK5
     refine wp_seq' fun K15 hK15 => ?_
     refine wp_reg ?_
     refine ol_r (r_move rfl) rfl ?_
     refine ol_call rfl rfl cb43 rfl (fun w1 hb1 hs1 hB1 => Calls.mono (ref5_places _ _ _ xs _ (hx.at hb1 hB1) (by omega)) ?_)
     rintro e w2 ⟨a23, n23, c23, rfl, hf23⟩
     refine After.fresh (id := 23) rfl hb1 hs1 hB1 hf23 ?_
     have hl23 := hf23.len; clear hf23 hB1 hs1 hb1 w2 w1
     refine ol_r (r_assign rfl) rfl ?_
     refine ol_r (r_assign rfl) rfl ?_
     refine ol_nil (to_k0 (fun _ _ h => h) (hK15 _ _ _ _ _ ?_))
     clear hK15
     refine hQ.ret (rvs2 (rv_t rfl) (rv_t rfl)) (fun _ _ h => h) fun w hb hs hB hkd => ?_
     have h1 := placesR_0 (l := xs) (by omega) (chkE_end hP (by omega))
     exact ⟨_, _, _, by rw [h1], by rw [h1]; exact ⟨hb, hs.ok 23 _ rfl⟩⟩
end Go.Proofs.Ytjflbnbofedlkaa

/-
  Places: the program; MatchPlacesMatchSpec.
-/

namespace Go.Proofs.Ytjflbnbofedlkaa
open Go Go.RowKit Hx
set_option linter.unusedVariables false
set_option linter.unusedSimpArgs false
set_option maxRecDepth 8000
theorem match_places (a : Option Addr) (n c : Nat) (xs : List ScoreR) (w : World) (hx : Rd encScore w.heap.size w a n c xs) (hn : n ≤ 5000) :
    Calls Try.prog 42 #[.slice a n c] w fun e w' => ∃ b m k, e = .returned (.slice b m k) ∧ Fresh encPlace 32 w w' b m k (placesS xs) := by
  have hln := hx.len
  refine enterQ (N := 93) (C := fun _ => True) (H := []) (B := w.heap.size) (args := [_]) Try.func42 rfl rfl rfl (Nat.le_refl _) (Sat.nil _ _) fun Q hQ => ?_
  refine wp_seq' fun K1 hK1 => ?_
  refine wp_reg ?_
  refine ol_r (r_assign rfl) rfl ?_
  refine ol_nil (to_k0 (fun _ _ h => h) (hK1 _ _ _ _ _ ?_))
  clear hK1
  refine wp_seq' fun K2 hK2 => ?_
  refine wp_reg ?_
  refine ol_mkmapE (Value.string) (encScore.val) 12 rfl fun b12 => ?_
  refine ol_r (r_assign rfl) rfl ?_
  refine ol_nil (to_k0 (fun _ _ h => h) (hK2 _ _ _ _ _ ?_))
  clear hK2
  refine wp_seq' fun K3 hK3 => ?_
  refine wp_seq' fun K4 hK4 => ?_
  refine wp_reg ?_
  refine ol_r (r_move rfl) rfl ?_
  refine ol_r (r_len rfl sl22) rfl ?_
  refine ol_r (r_move rfl) rfl ?_
  refine ol_nil (to_k0 (fun _ _ h => h) (hK4 _ _ _ _ _ ?_))
  clear hK4
  refine wp_block' ?_
  apply wp_loopM (σ := Nat × BM) (fun s => s.1 ≤ n ∧ BestOk (xs.take s.1) s.2 ∧ s.2.length ≤ s.1) (fun s => [(15, .int .i64 s.1)]) [(2, _), (3, _), (13, _), (14, _)] (fun s => [(12, .ob b12 (MapO (pEnc Value.string encScore.val s.2)))]) [] (fun s => n - s.1) ((0, []))
  ·try dsimp only
   exact ⟨Nat.zero_le _, BestOk.nil, Nat.zero_le _⟩
  ·exact (sub_cons rfl sub_nil)
  ·exact (sub_cons rfl (sub_cons rfl (sub_cons rfl (sub_cons rfl sub_nil))))
  ·exact (subH_same rfl subH_nil)
  ·exact subH_nil
  ·rintro ⟨k, D⟩ ⟨hk, hD, hDl⟩
   dsimp only at hk hD hDl ⊢
   intro K5 hK5
   refine wp_seq' fun K6 hK6 => ?_
   refine wp_reg ?_
   refine ol_r (r_lss rfl rfl) rfl ?_
   refine ol_nil (to_k0 (fun _ _ h => h) (hK6 _ _ _ _ _ ?_))
   clear hK6
   refine wp_seq' fun K7 hK7 => ?_
   first | refine wp_condD rfl (fun hc16 => ?_) (fun hc16 => ?_) | refine wp_condN rfl (fun hc16 => ?_) (fun hc16 => ?_) | refine wp_condNB rfl (fun hc16 => ?_) (fun hc16 => ?_) | refine wp_cond' rfl (fun hc16 => ?_) (fun hc16 => ?_)
   ·refine wp_skip' (to_k0 (fun _ _ h => h) (hK7 _ _ _ _ _ ?_))
    clear hK7
    refine wp_seq' fun K8 hK8 => ?_
    refine wp_block' ?_
    refine wp_seq' fun K9 hK9 => ?_
    refine wp_reg ?_
    refine ol_ixr hx rfl rfl sl22 (by omega) rfl fun x17 hx17 => ?_
    try simp only [Int.toNat_natCast] at hx17
    refine ol_r (r_ldw rfl (fun w1 hb1 hs1 hB1 => Rd.loads hx ty24 hx17 hb1)) rfl ?_
    refine ol_alloc 5 z24 rfl fun b5 => ?_
    refine ol_store (id := 5) rfl rfl rfl rfl sz24 rfl rfl (by first | decide | exact Nat.zero_lt_succ _ | simp) ?_
    refine ol_nil (to_k0 (fun _ _ h => h) (hK9 _ _ _ _ _ ?_))
    clear hK9
    refine wp_seq' fun K10 hK10 => ?_
    refine wp_reg ?_
    refine ol_r (r_move rfl) rfl ?_
    refine ol_r (r_fa (o' := 0) rfl fl24_0 rfl) rfl ?_
    refine ol_r (r_ld (id := 5) rfl rfl rfl sc9) rfl ?_
    refine ol_r (r_look2 (K := Value.string) (V := encScore.val) (z := zS) (id := 12) rfl rfl rfl mk122) rfl ?_
    refine ol_r (r_move rfl) rfl ?_
    refine ol_r (r_extract rfl rfl) rfl ?_
    refine ol_r (r_extract rfl rfl) rfl ?_
    refine ol_alloc 6 z24 rfl fun b6 => ?_
    refine ol_store (id := 6) rfl rfl rfl rfl sz24 rfl rfl (by first | decide | exact Nat.zero_lt_succ _ | simp) ?_
    refine ol_r (r_assign rfl) rfl ?_
    refine ol_nil (to_k0 (fun _ _ h => h) (hK10 _ _ _ _ _ ?_))
    clear hK10
    refine wp_seq' fun K11 hK11 => ?_
    refine wp_reg ?_
    refine ol_r (r_move rfl) rfl ?_
    refine ol_r (r_not rfl) rfl ?_
    refine ol_r (r_move rfl) rfl ?_
    refine ol_split (d := 28) rfl (fun hs28 => ?_) (fun hs28 => ?_)
    ·have phs28 := hs28; try simp only [decide_eq_true_eq, decide_eq_false_iff_not, Bool.not_eq_true', Bool.not_eq_false', Bool.not_true, Bool.not_false] at phs28
     refine ol_s rfl rfl hs28 rfl ?_
     refine ol_s rfl rfl hs28 rfl ?_
     refine ol_s rfl rfl hs28 rfl ?_
     refine ol_s rfl rfl hs28 rfl ?_
     refine ol_r (r_pickT rfl hs28 rfl) rfl ?_
     refine ol_nil (to_k0 (fun _ _ h => h) (hK11 _ _ _ _ _ ?_))
     clear hK11
     refine wp_condT rfl ?_
     refine wp_reg ?_
     refine ol_r (r_move rfl) rfl ?_
     refine ol_r (r_fa (o' := 0) rfl fl24_0 rfl) rfl ?_
     refine ol_r (r_ld (id := 5) rfl rfl rfl sc9) rfl ?_
     refine ol_r (r_lda (id := 5) (n := 3) rfl rfl rfl ag24) rfl ?_
     refine ol_mapset (K := Value.string) (V := encScore.val) (z := zS) (id := 12) rfl rfl rfl rfl mk122 trivial ?_
     refine ol_nil (to_k0 (fun _ _ h => h) (hK8 _ _ _ _ _ ?_))
     clear hK8
     refine wp_reg ?_
     refine ol_r (r_add rfl rfl (by omega)) rfl ?_
     refine ol_r (r_move rfl) rfl ?_
     refine ol_nil (to_k0 (fun _ _ h => h) (hK5 ((k + 1, pS D x17.name x17)) _ _ ?_ ?_ (sub_cons rfl sub_nil) (sub_cons rfl (sub_cons rfl (sub_cons rfl (sub_cons rfl sub_nil)))) (by exact (subH_same rfl subH_nil)) subH_nil))
     ·try dsimp only
      have hq := pS_le x17.name x17 D
      exact ⟨by omega, by rw [take_next hx17]; exact hD.put (fun y hy => by rw [hy] at phs28; cases phs28), by omega⟩
     ·try dsimp only
      omega
    ·have phs28 := hs28; try simp only [decide_eq_true_eq, decide_eq_false_iff_not, Bool.not_eq_true', Bool.not_eq_false', Bool.not_true, Bool.not_false] at phs28
     refine ol_g rfl rfl hs28 ?_
     refine ol_r (r_lda (id := 5) (n := 3) rfl rfl rfl ag24) rfl ?_
     refine ol_g rfl rfl hs28 ?_
     refine ol_r (r_lda (id := 6) (n := 3) rfl rfl rfl ag24) rfl ?_
     refine ol_g rfl rfl hs28 ?_
     refine ol_call rfl rfl cb74 rfl (fun w1 hb1 hs1 hB1 => Calls.mono (match_order x17 ((pO D x17.name).getD zS) _) ?_)
     rintro e w2 ⟨rfl, hb2⟩
     refine After.below rfl hb1 hs1 hB1 hb2 ?_
     clear hb2 hB1 hs1 hb1 w2 w1
     refine ol_g rfl rfl hs28 ?_
     refine ol_r (r_lss rfl rfl) rfl ?_
     refine ol_r (r_pickF rfl hs28 rfl) rfl ?_
     refine ol_nil (to_k0 (fun _ _ h => h) (hK11 _ _ _ _ _ ?_))
     clear hK11
     first | refine wp_condD rfl (fun hc33 => ?_) (fun hc33 => ?_) | refine wp_condN rfl (fun hc33 => ?_) (fun hc33 => ?_) | refine wp_condNB rfl (fun hc33 => ?_) (fun hc33 => ?_) | refine wp_cond' rfl (fun hc33 => ?_) (fun hc33 => ?_)
     ·refine wp_reg ?_
      refine ol_r (r_move rfl) rfl ?_
      refine ol_r (r_fa (o' := 0) rfl fl24_0 rfl) rfl ?_
      refine ol_r (r_ld (id := 5) rfl rfl rfl sc9) rfl ?_
      refine ol_r (r_lda (id := 5) (n := 3) rfl rfl rfl ag24) rfl ?_
      refine ol_mapset (K := Value.string) (V := encScore.val) (z := zS) (id := 12) rfl rfl rfl rfl mk122 trivial ?_
      refine ol_nil (to_k0 (fun _ _ h => h) (hK8 _ _ _ _ _ ?_))
      clear hK8
      refine wp_reg ?_
      refine ol_r (r_add rfl rfl (by omega)) rfl ?_
      refine ol_r (r_move rfl) rfl ?_
      refine ol_nil (to_k0 (fun _ _ h => h) (hK5 ((k + 1, pS D x17.name x17)) _ _ ?_ ?_ (sub_cons rfl sub_nil) (sub_cons rfl (sub_cons rfl (sub_cons rfl (sub_cons rfl sub_nil)))) (by exact (subH_same rfl subH_nil)) subH_nil))
      ·try dsimp only
       have hq := pS_le x17.name x17 D
       exact ⟨by omega, by rw [take_next hx17]; exact hD.put (fun y hy => by rw [hy] at hc33; exact scf_neg.1 hc33), by omega⟩
      ·try dsimp only
       omega
     ·refine wp_skip' (to_k0 (fun _ _ h => h) (hK8 _ _ _ _ _ ?_))
      clear hK8
      refine wp_reg ?_
      refine ol_r (r_add rfl rfl (by omega)) rfl ?_
      refine ol_r (r_move rfl) rfl ?_
      refine ol_nil (to_k0 (fun _ _ h => h) (hK5 ((k + 1, D)) _ _ ?_ ?_ (sub_cons rfl sub_nil) (sub_cons rfl (sub_cons rfl (sub_cons rfl (sub_cons rfl sub_nil)))) (by exact (subH_same rfl subH_nil)) subH_nil))
      ·try dsimp only
       obtain ⟨y, hy⟩ := Option.isSome_iff_exists.1 phs28
       refine ⟨by omega, by rw [take_next hx17]; exact hD.keep hy (by rw [hy] at hc33; rw [← Bool.not_eq_true, ← scf_neg]; exact hc33), by omega⟩
      ·try dsimp only
       omega
   ·refine wp_exit' (to_k0 (fun _ _ h => h) (hK3 _ _ _ _ _ ?_))
    clear hK3
    refine wp_seq' fun K12 hK12 => ?_
    refine wp_reg ?_
    refine ol_nilrow 8 32 4 ?_
    refine ol_r (r_assign rfl) rfl ?_
    refine ol_nil (to_k0 (fun _ _ h => h) (hK12 _ _ _ _ _ ?_))
    clear hK12
    refine wp_seq' fun K13 hK13 => ?_
    refine wp_seq' fun K14 hK14 => ?_
    refine wp_reg ?_
    refine ol_r (r_move rfl) rfl ?_
    refine ol_range (K := Value.string) (V := encScore.val) (z := zS) (id := 12) 40 rfl rfl mk122 rfl fun r40 bs40 ck40 hbs40 => ?_
    refine ol_nil (to_k0 (fun _ _ h => h) (hK14 _ _ _ _ _ ?_))
    clear hK14
    refine wp_block' ?_
    apply wp_loopM (σ := List Nat × List ScoreR × Option Addr × Nat × Nat) (fun s => s.2.2.2.1 = s.2.1.length ∧ Vis (valsB D) s.1 s.2.1) (fun s => [(8, .slice s.2.2.1 s.2.2.2.1 s.2.2.2.2)]) [(2, _), (40, _)] (fun s => [(8, .row s.2.2.1 s.2.2.2.1 s.2.2.2.2 (encP0.enc s.2.1) 32 4), (40, .ob r40 (IterO b12 bs40 ck40 s.1))]) [(12, _)] (fun s => D.length - s.1.length) (([], [], none, 0, 0))
    ·try dsimp only
     exact ⟨rfl, Vis.nil _⟩
    ·exact (sub_cons rfl sub_nil)
    ·exact (sub_cons rfl (sub_cons rfl sub_nil))
    ·exact (subH_row rfl (by first | (dsimp only; rfl; done) | (rfl; done) | (dsimp only; done)) (subH_same rfl subH_nil))
    ·exact (subH_same rfl subH_nil)
    ·rintro ⟨js, ks, oa, m, oc⟩ ⟨hm, hV⟩
     dsimp only at hm hV ⊢
     have hvl := hV.len
     have hvb := hV.le
     rw [valsB_len] at hvb
     intro K15 hK15
     refine wp_seq' fun K16 hK16 => ?_
     refine wp_reg ?_
     refine ol_nextG (K := Value.string) (V := encScore.val) (idi := 40) rfl rfl (mapB_own (id := 12) rfl) hbs40.2.1 hbs40.2.2 trivial rfl (fun hall41 => ?_) (fun j41 k41 v41 hj41 hv41 => ?_)
     ·refine ol_r (r_extract rfl rfl) rfl ?_
      refine ol_nil (to_k0 (fun _ _ h => h) (hK16 _ _ _ _ _ ?_))
      clear hK16
      refine wp_seq' fun K17 hK17 => ?_
      refine wp_condF rfl ?_
      refine wp_exit' (to_k0 (fun _ _ h => h) (hK13 _ _ _ _ _ ?_))
      clear hK13
      refine wp_seq' fun K18 hK18 => ?_
      refine wp_reg ?_
      refine ol_r (r_move rfl) rfl ?_
      refine ol_call rfl rfl cb75 rfl (fun w1 hb1 hs1 hB1 => ?_)
      refine Calls.mono (sort_places _ 8 _ _ _ ks _ _ _ hB1 hs1 rfl (by omega)) ?_
      rintro e w2 ⟨rfl, hbw, hs2, hB2, hkd2⟩
      refine After.sat rfl hb1 hbw hs2 hB2 (hkd2.imp (fun _ h => h.elim)) ?_
      clear hkd2 hB2 hs2 hbw hB1 hs1 hb1 w2 w1
      have hkn : k = n := by omega
      subst hkn
      rw [List.take_of_length_le (by omega)] at hD
      have hp := hV.all (fun j hj => hall41 j (by rwa [valsB_len] at hj))
      have hB9 : sortL sclt ks = firsts (sortL sclt xs) [] := by rw [sortL_perm_eq sclt_tot hp]; exact hD.end_
      obtain ⟨S, hS⟩ : ∃ S, S = sortL sclt ks := ⟨_, rfl⟩
      have hSl : S.length = m := by rw [hS, sortL_len, hm]
      rw [← hS]
      refine ol_nil (to_k0 (fun _ _ h => h) (hK18 _ _ _ _ _ ?_))
      clear hK18
      refine wp_seq' fun K19 hK19 => ?_
      refine wp_seq' fun K20 hK20 => ?_
      refine wp_reg ?_
      refine ol_r (r_move rfl) rfl ?_
      refine ol_r (r_len rfl sl25) rfl ?_
      refine ol_r (r_move rfl) rfl ?_
      refine ol_nil (to_k0 (fun _ _ h => h) (hK20 _ _ _ _ _ ?_))
      clear hK20
      refine wp_block' ?_
      apply wp_loopM (σ := Nat) (fun s => s ≤ m) (fun s => [(54, .int .i64 s)]) [(2, _), (8, _), (53, _)] (fun s => [(8, .row oa m oc (encPlace.enc (rowP S s)) 32 4)]) [(12, _), (40, _)] (fun s => m - s) (0)
      ·try dsimp only
       exact Nat.zero_le _
      ·exact (sub_cons rfl sub_nil)
      ·exact (sub_cons rfl (sub_cons rfl (sub_cons rfl sub_nil)))
      ·exact (subH_row rfl (by first | (dsimp only; (rw [encP0_is]; rfl); done) | ((rw [encP0_is]; rfl); done) | (dsimp only; done)) subH_nil)
      ·exact (subH_same rfl (subH_same rfl subH_nil))
      ·rintro k3 hk3
       have hrl := rowP_len (S := S) (k := k3) (by omega)
       intro K21 hK21
       refine wp_seq' fun K22 hK22 => ?_
       refine wp_reg ?_
       refine ol_r (r_lss rfl rfl) rfl ?_
       refine ol_nil (to_k0 (fun _ _ h => h) (hK22 _ _ _ _ _ ?_))
       clear hK22
       refine wp_seq' fun K23 hK23 => ?_
       first | refine wp_condD rfl (fun hc55 => ?_) (fun hc55 => ?_) | refine wp_condN rfl (fun hc55 => ?_) (fun hc55 => ?_) | refine wp_condNB rfl (fun hc55 => ?_) (fun hc55 => ?_) | refine wp_cond' rfl (fun hc55 => ?_) (fun hc55 => ?_)
       ·refine wp_skip' (to_k0 (fun _ _ h => h) (hK23 _ _ _ _ _ ?_))
        clear hK23
        refine wp_seq' fun K24 hK24 => ?_
        refine wp_block' ?_
        refine wp_seq' fun K25 hK25 => ?_
        refine wp_reg ?_
        refine ol_r (r_move rfl) rfl ?_
        refine ol_r (r_assign rfl) rfl ?_
        refine ol_nil (to_k0 (fun _ _ h => h) (hK25 _ _ _ _ _ ?_))
        clear hK25
        refine wp_seq' fun K26 hK26 => ?_
        refine wp_reg ?_
        refine ol_r (r_move rfl) rfl ?_
        refine ol_r (r_move rfl) rfl ?_
        refine ol_r (r_move rfl) rfl ?_
        refine ol_r (r_add rfl rfl (by omega)) rfl ?_
        refine ol_ixo (id := 8) encPlace _ rfl rfl rfl rfl sl25 (by omega) rfl fun x61 hx61 => ?_
        try simp only [Int.toNat_natCast] at hx61
        try simp only [Int.toNat_natCast] at hx61
        have hy61 := rowP_sc (by omega) hx61
        refine ol_r (r_faO (id := 8) rfl rfl rfl hx61 fl32_0) rfl ?_
        refine ol_storeRowF (id := 8) _ _ (⟨(k3 : Int) + 1, x61.sc⟩) rfl rfl rfl rfl rfl rfl sz3 hx61 (by decide) rfl ?_
        refine ol_nil (to_k0 (fun _ _ h => h) (hK26 _ _ _ _ _ ?_))
        clear hK26
        refine wp_seq' fun K27 hK27 => ?_
        refine wp_regq (by kernel_rfl) (by kernel_rfl) ?_
        simp only [Int.toNat_natCast]
        have hst : ((rowP S k3).set k3 ⟨(k3 : Int) + 1, x61.sc⟩).length = (rowP S k3).length := List.length_set
        refine ql_r (r_move rfl) rfl ?_
        refine ql_r (r_gtr rfl rfl) rfl ?_
        refine ql_r (r_move rfl) rfl ?_
        refine ql_split (d := 65) rfl (fun hs65 => ?_) (fun hs65 => ?_)
        ·have phs65 := hs65; try simp only [decide_eq_true_eq, decide_eq_false_iff_not, Bool.not_eq_true', Bool.not_eq_false', Bool.not_true, Bool.not_false] at phs65
         refine ql_g rfl rfl hs65 ?_
         refine ql_r (r_move rfl) rfl ?_
         refine ql_g rfl rfl hs65 ?_
         refine ql_r (r_move rfl) rfl ?_
         refine ql_g rfl rfl hs65 ?_
         refine ql_ixo (id := 8) encPlace _ rfl rfl rfl rfl sl25 (by omega) (by omega) rfl fun x68 hx68 => ?_
         try simp only [Int.toNat_natCast] at hx68
         try simp only [Int.toNat_natCast] at hx68
         refine ql_g rfl rfl hs65 ?_
         refine ql_r (r_faO (id := 8) rfl rfl rfl hx68 fl32_1) rfl ?_
         refine ql_g rfl rfl hs65 ?_
         refine ql_r (r_faO2 (id := 8) (o := 3) rfl rfl rfl hx68 fl24_2 rfl) rfl ?_
         refine ql_g rfl rfl hs65 ?_
         refine ql_r (r_ldw rfl (fun w1 hb1 hs1 hB1 => ld_ownF (id := 8) (o := 3) hs1 rfl rfl sc3 hx68 rfl)) rfl ?_
         refine ql_g rfl rfl hs65 ?_
         refine ql_r (r_move rfl) rfl ?_
         refine ql_g rfl rfl hs65 ?_
         refine ql_r (r_move rfl) rfl ?_
         refine ql_g rfl rfl hs65 ?_
         refine ql_r (r_sub rfl rfl (by omega)) rfl ?_
         refine ql_g rfl rfl hs65 ?_
         refine ql_ixo (id := 8) encPlace _ rfl rfl rfl rfl sl25 (by omega) (by omega) rfl fun x75 hx75 => ?_
         try simp only [Int.toNat_natCast] at hx75
         try simp only [Int.toNat_natCast] at hx75
         refine ql_g rfl rfl hs65 ?_
         refine ql_r (r_faO (id := 8) rfl rfl rfl hx75 fl32_1) rfl ?_
         refine ql_g rfl rfl hs65 ?_
         refine ql_r (r_faO2 (id := 8) (o := 3) rfl rfl rfl hx75 fl24_2 rfl) rfl ?_
         refine ql_g rfl rfl hs65 ?_
         refine ql_r (r_ldw rfl (fun w1 hb1 hs1 hB1 => ld_ownF (id := 8) (o := 3) hs1 rfl rfl sc3 hx75 rfl)) rfl ?_
         refine ql_g rfl rfl hs65 ?_
         refine ql_r (r_eql rfl rfl) rfl ?_
         refine ql_r (r_pickT rfl hs65 rfl) rfl ?_
         refine ql_nil (to_k0 (fun _ _ h => h) (hK27 _ _ _ _ _ ?_))
         clear hK27
         first | refine wp_condD rfl (fun hc80 => ?_) (fun hc80 => ?_) | refine wp_condN rfl (fun hc80 => ?_) (fun hc80 => ?_) | refine wp_condNB rfl (fun hc80 => ?_) (fun hc80 => ?_) | refine wp_cond' rfl (fun hc80 => ?_) (fun hc80 => ?_)
         ·refine wp_reg ?_
          refine ol_r (r_move rfl) rfl ?_
          refine ol_r (r_move rfl) rfl ?_
          refine ol_r (r_move rfl) rfl ?_
          refine ol_r (r_move rfl) rfl ?_
          refine ol_r (r_sub rfl rfl (by omega)) rfl ?_
          refine ol_ixo (id := 8) encPlace _ rfl rfl rfl rfl sl25 (by omega) rfl fun x86 hx86 => ?_
          try simp only [Int.toNat_natCast] at hx86
          try simp only [Int.toNat_natCast] at hx86
          refine ol_r (r_faO (id := 8) rfl rfl rfl hx86 fl32_0) rfl ?_
          refine ol_r (r_ldw rfl (fun w1 hb1 hs1 hB1 => ld_ownF (id := 8) (o := 0) hs1 rfl rfl sc3 hx86 rfl)) rfl ?_
          refine ol_ixo (id := 8) encPlace _ rfl rfl rfl rfl sl25 (by omega) rfl fun x89 hx89 => ?_
          try simp only [Int.toNat_natCast] at hx89
          try simp only [Int.toNat_natCast] at hx89
          refine ol_r (r_faO (id := 8) rfl rfl rfl hx89 fl32_0) rfl ?_
          refine ol_storeRowF (id := 8) _ _ (⟨x86.rank, x89.sc⟩) rfl rfl rfl rfl rfl rfl sz3 hx89 (by decide) rfl ?_
          refine ol_nil (to_k0 (fun _ _ h => h) (hK24 _ _ _ _ _ ?_))
          clear hK24
          refine wp_reg ?_
          refine ol_r (r_add rfl rfl (by omega)) rfl ?_
          refine ol_r (r_move rfl) rfl ?_
          refine ol_nil (to_k0 (fun _ _ h => h) (hK21 (k3 + 1) _ _ ?_ ?_ (sub_cons rfl sub_nil) (sub_cons rfl (sub_cons rfl (sub_cons rfl sub_nil))) (by exact (subH_row rfl (by first | (dsimp only; first | (simp only [Int.toNat_natCast]; rw [rowA hy61 (by omega) hx68 hx75 hx86 hx89 hc80]; done) | (rw [rowB hy61 (by omega) hx68 hx75 hc80]; done) | (rw [rowC hy61 (by omega)]; done); done) | (first | (simp only [Int.toNat_natCast]; rw [rowA hy61 (by omega) hx68 hx75 hx86 hx89 hc80]; done) | (rw [rowB hy61 (by omega) hx68 hx75 hc80]; done) | (rw [rowC hy61 (by omega)]; done); done) | (dsimp only; done)) subH_nil)) (subH_same rfl (subH_same rfl subH_nil))))
          ·try dsimp only
           omega
          ·try dsimp only
           omega
         ·refine wp_skip' (to_k0 (fun _ _ h => h) (hK24 _ _ _ _ _ ?_))
          clear hK24
          refine wp_reg ?_
          refine ol_r (r_add rfl rfl (by omega)) rfl ?_
          refine ol_r (r_move rfl) rfl ?_
          refine ol_nil (to_k0 (fun _ _ h => h) (hK21 (k3 + 1) _ _ ?_ ?_ (sub_cons rfl sub_nil) (sub_cons rfl (sub_cons rfl (sub_cons rfl sub_nil))) (by exact (subH_row rfl (by first | (dsimp only; first | (simp only [Int.toNat_natCast]; rw [rowA hy61 (by omega) hx68 hx75 hx86 hx89 hc80]; done) | (rw [rowB hy61 (by omega) hx68 hx75 hc80]; done) | (rw [rowC hy61 (by omega)]; done); done) | (first | (simp only [Int.toNat_natCast]; rw [rowA hy61 (by omega) hx68 hx75 hx86 hx89 hc80]; done) | (rw [rowB hy61 (by omega) hx68 hx75 hc80]; done) | (rw [rowC hy61 (by omega)]; done); done) | (dsimp only; done)) subH_nil)) (subH_same rfl (subH_same rfl subH_nil))))
          ·try dsimp only
           omega
          ·try dsimp only
           omega
        ·have phs65 := hs65; try simp only [decide_eq_true_eq, decide_eq_false_iff_not, Bool.not_eq_true', Bool.not_eq_false', Bool.not_true, Bool.not_false] at phs65
         refine ql_s rfl rfl hs65 rfl ?_
         refine ql_s rfl rfl hs65 rfl ?_
         refine ql_s rfl rfl hs65 rfl ?_
         refine ql_s rfl rfl hs65 rfl ?_
         refine ql_s rfl rfl hs65 rfl ?_
         refine ql_s rfl rfl hs65 rfl ?_
         refine ql_s rfl rfl hs65 rfl ?_
         refine ql_s rfl rfl hs65 rfl ?_
         refine ql_s rfl rfl hs65 rfl ?_
         refine ql_s rfl rfl hs65 rfl ?_
         refine ql_s rfl rfl hs65 rfl ?_
         refine ql_s rfl rfl hs65 rfl ?_
         refine ql_s rfl rfl hs65 rfl ?_
         refine ql_s rfl rfl hs65 rfl ?_
         refine ql_r (r_pickF rfl hs65 rfl) rfl ?_
         refine ql_nil (to_k0 (fun _ _ h => h) (hK27 _ _ _ _ _ ?_))
         clear hK27
         refine wp_condF rfl ?_
         refine wp_skip' (to_k0 (fun _ _ h => h) (hK24 _ _ _ _ _ ?_))
         clear hK24
         refine wp_reg ?_
         refine ol_r (r_add rfl rfl (by omega)) rfl ?_
         refine ol_r (r_move rfl) rfl ?_
         refine ol_nil (to_k0 (fun _ _ h => h) (hK21 (k3 + 1) _ _ ?_ ?_ (sub_cons rfl sub_nil) (sub_cons rfl (sub_cons rfl (sub_cons rfl sub_nil))) (by exact (subH_row rfl (by first | (dsimp only; first | (simp only [Int.toNat_natCast]; rw [rowA hy61 (by omega) hx68 hx75 hx86 hx89 hc80]; done) | (rw [rowB hy61 (by omega) hx68 hx75 hc80]; done) | (rw [rowC hy61 (by omega)]; done); done) | (first | (simp only [Int.toNat_natCast]; rw [rowA hy61 (by omega) hx68 hx75 hx86 hx89 hc80]; done) | (rw [rowB hy61 (by omega) hx68 hx75 hc80]; done) | (rw [rowC hy61 (by omega)]; done); done) | (dsimp only; done)) subH_nil)) (subH_same rfl (subH_same rfl subH_nil))))
         ·try dsimp only
          omega
         ·try dsimp only
          omega
       ·refine wp_exit' (to_k0 (fun _ _ h => h) (hK19 _ _ _ _ _ ?_))
        clear hK19
        refine wp_seq' fun K28 hK28 => ?_
        refine wp_reg ?_
        refine ol_r (r_move rfl) rfl ?_
        refine ol_r (r_assign rfl) rfl ?_
        refine ol_nil (to_k0 (fun _ _ h => h) (hK28 _ _ _ _ _ ?_))
        clear hK28
        refine hQ.ret (rvs1 (rv_t rfl)) (fun _ _ h => h) fun w hb hs hB hkd => ?_
        have hk4 : k3 = m := by omega
        subst hk4
        have hfin : rowP S S.length = placesS xs := by
          have hSF : S = firsts (sortL sclt xs) [] := hS.trans hB9
          unfold rowP placesS
          rw [← hSF, List.drop_length, List.map_nil, List.append_nil]
        exact ⟨_, _, _, rfl, hb, by rw [← hfin, hSl]; exact hs.ok 8 _ rfl⟩
     ·refine ol_r (r_extract rfl rfl) rfl ?_
      refine ol_nil (to_k0 (fun _ _ h => h) (hK16 _ _ _ _ _ ?_))
      clear hK16
      refine wp_seq' fun K29 hK29 => ?_
      refine wp_condT rfl ?_
      refine wp_skip' (to_k0 (fun _ _ h => h) (hK29 _ _ _ _ _ ?_))
      clear hK29
      refine wp_block' ?_
      refine wp_seq' fun K30 hK30 => ?_
      refine wp_reg ?_
      refine ol_r (r_entry (K := Value.string) (V := encScore.val) (idi := 40) rfl rfl (mapB_own (id := 12) rfl) hbs40.2.1 hv41) rfl ?_
      refine ol_r (r_extract rfl rfl) rfl ?_
      have hmr := hV.more hj41 (List.getElem?_eq_some_iff.1 (valsB_get hv41)).1
      rw [valsB_len] at hmr
      refine ol_alloc 10 z24 rfl fun b10 => ?_
      refine ol_store (id := 10) rfl rfl rfl rfl sz24 rfl rfl (by first | decide | exact Nat.zero_lt_succ _ | simp) ?_
      refine ol_nil (to_k0 (fun _ _ h => h) (hK30 _ _ _ _ _ ?_))
      clear hK30
      refine wp_reg ?_
      refine ol_r (r_move rfl) rfl ?_
      refine ol_r (r_lda (id := 10) (n := 3) rfl rfl rfl ag24) rfl ?_
      refine ol_r (r_build rfl (fun _ => bd32_1 _ _ _ _)) rfl ?_
      refine ol_bs1 48 rfl rfl rw25 rfl rfl rfl fun a48 => ?_
      refine ol_append1 (id := 8) (id2 := 48) rfl rfl rfl rfl rfl rw25 (by omega) rfl fun a49 c49 => ?_
      refine ol_r (r_assign rfl) rfl ?_
      refine ol_nil (to_k0 (fun _ _ h => h) (hK15 ((js ++ [j41], ks ++ [v41], _, _, _)) _ _ ?_ ?_ (sub_cons rfl sub_nil) (sub_cons rfl (sub_cons rfl sub_nil)) (by exact (subH_row rfl (by first | (dsimp only; rw [Enc.enc_append]; rfl; done) | (rw [Enc.enc_append]; rfl; done) | (dsimp only; done)) (subH_same rfl subH_nil))) (subH_same rfl subH_nil)))
      ·try dsimp only
       exact ⟨by rw [List.length_append, hm]; rfl, hV.step hj41 (valsB_get hv41)⟩
      ·try dsimp only
       rw [List.length_append, List.length_singleton]; omega
theorem match_Places (a : Option Addr) (n c : Nat) (xs : List ScoreR) (w : World) (hx : Rd encScore w.heap.size w a n c xs) (hnm : ∀ x ∈ xs, x.name.size ≤ 9223372036854775807) :
    Calls Try.prog 8 #[.slice a n c] w fun e w' => ∃ b m k, e = .returned (.tuple #[.slice b m k, .int .i64 (placesR xs).2]) ∧ Fresh encPlace 32 w w' b m k (placesR xs).1 := by
  have hsn := hx.len
  have hsf := hx.fit
  refine enterQ (N := 24) (C := fun _ => True) (H := []) (B := w.heap.size) (args := [_]) Try.func8 rfl rfl rfl (Nat.le_refl _) (Sat.nil _ _) fun Q hQ => ?_
  refine wp_seq' fun K1 hK1 => ?_
  refine wp_reg ?_
  refine ol_r (r_assign rfl) rfl ?_
  refine ol_r (r_assign rfl) rfl ?_
  refine ol_nil (to_k0 (fun _ _ h => h) (hK1 _ _ _ _ _ ?_))
  clear hK1
  refine wp_seq' fun K2 hK2 => ?_
  refine wp_seq' fun K3 hK3 => ?_
  refine wp_reg ?_
  refine ol_r (r_move rfl) rfl ?_
  refine ol_r (r_len rfl sl22) rfl ?_
  refine ol_r (r_gtr rfl rfl) rfl ?_
  refine ol_nil (to_k0 (fun _ _ h => h) (hK3 _ _ _ _ _ ?_))
  clear hK3
  first | refine wp_condD rfl (fun hc9 => ?_) (fun hc9 => ?_) | refine wp_condN rfl (fun hc9 => ?_) (fun hc9 => ?_) | refine wp_condNB rfl (fun hc9 => ?_) (fun hc9 => ?_) | refine wp_cond' rfl (fun hc9 => ?_) (fun hc9 => ?_)
  ·refine wp_seq' fun K4 hK4 => ?_
   refine wp_reg ?_
   refine ol_r (r_assign rfl) rfl ?_
   refine ol_r (r_assign rfl) rfl ?_
   refine ol_nil (to_k0 (fun _ _ h => h) (hK4 _ _ _ _ _ ?_))
   clear hK4
   refine hQ.ret (rvs2 (rv_t rfl) (rv_t rfl)) (fun _ _ h => h) fun w hb hs hB hkd => ?_
   have h1 := placesR_3 (l := xs) (by omega)
   exact ⟨none, 0, 0, by rw [h1], by rw [h1]; exact Fresh.nil hb⟩
  ·refine wp_skip' (to_k0 (fun _ _ h => h) (hK2 _ _ _ _ _ ?_))
   clear hK2
   refine wp_seq' fun K5 hK5 => ?_
   refine wp_seq' fun K6 hK6 => ?_
   refine wp_reg ?_
   refine ol_r (r_move rfl) rfl ?_
   refine ol_r (r_len rfl sl22) rfl ?_
   refine ol_r (r_move rfl) rfl ?_
   refine ol_nil (to_k0 (fun _ _ h => h) (hK6 _ _ _ _ _ ?_))
   clear hK6
   refine wp_block' ?_
   apply wp_loopM (σ := Nat) (fun s => s ≤ n ∧ chkE (fun _ x => chkEn x) none xs = chkE (fun _ x => chkEn x) (ahead xs s) (xs.drop s)) (fun s => [(12, .int .i64 s)]) [(0, _), (10, _), (11, _)] (fun s => []) [] (fun s => n - s) (0)
   ·try dsimp only
    exact ⟨Nat.zero_le _, chkE_start _ _⟩
   ·exact (sub_cons rfl sub_nil)
   ·exact (sub_cons rfl (sub_cons rfl (sub_cons rfl sub_nil)))
   ·exact subH_nil
   ·exact subH_nil
   ·rintro k ⟨hk, hP⟩
    intro K7 hK7
    refine wp_seq' fun K8 hK8 => ?_
    refine wp_reg ?_
    refine ol_r (r_lss rfl rfl) rfl ?_
    refine ol_nil (to_k0 (fun _ _ h => h) (hK8 _ _ _ _ _ ?_))
    clear hK8
    refine wp_seq' fun K9 hK9 => ?_
    first | refine wp_condD rfl (fun hc13 => ?_) (fun hc13 => ?_) | refine wp_condN rfl (fun hc13 => ?_) (fun hc13 => ?_) | refine wp_condNB rfl (fun hc13 => ?_) (fun hc13 => ?_) | refine wp_cond' rfl (fun hc13 => ?_) (fun hc13 => ?_)
    ·refine wp_skip' (to_k0 (fun _ _ h => h) (hK9 _ _ _ _ _ ?_))
     clear hK9
     refine wp_seq' fun K10 hK10 => ?_
     refine wp_block' ?_
     refine wp_seq' fun K11 hK11 => ?_
     refine wp_reg ?_
     refine ol_ixr hx rfl rfl sl22 (by omega) rfl fun x14 hx14 => ?_
     try simp only [Int.toNat_natCast] at hx14
     refine ol_r (r_ldw rfl (fun w1 hb1 hs1 hB1 => Rd.loads hx ty24 hx14 hb1)) rfl ?_
     refine ol_alloc 5 z24 rfl fun b5 => ?_
     refine ol_store (id := 5) rfl rfl rfl rfl sz24 rfl rfl (by first | decide | exact Nat.zero_lt_succ _ | simp) ?_
     refine ol_nil (to_k0 (fun _ _ h => h) (hK11 _ _ _ _ _ ?_))
     clear hK11
     refine wp_seq' fun K12 hK12 => ?_
     refine wp_reg ?_
     refine ol_r (r_lda (id := 5) (n := 3) rfl rfl rfl ag24) rfl ?_
     refine ol_call rfl rfl cb10 rfl (fun w1 hb1 hs1 hB1 => Calls.mono (match_CheckEntry x14 _ (hnm _ (List.mem_of_getElem? hx14))) ?_)
     rintro e w2 ⟨rfl, hb2⟩
     refine After.below rfl hb1 hs1 hB1 hb2 ?_
     clear hb2 hB1 hs1 hb1 w2 w1
     refine ol_r (r_assign rfl) rfl ?_
     refine ol_nil (to_k0 (fun _ _ h => h) (hK12 _ _ _ _ _ ?_))
     clear hK12
     refine wp_seq' fun K13 hK13 => ?_
     refine wp_reg ?_
     refine ol_r (r_move rfl) rfl ?_
     refine ol_r (r_neq rfl rfl) rfl ?_
     refine ol_nil (to_k0 (fun _ _ h => h) (hK13 _ _ _ _ _ ?_))
     clear hK13
     first | refine wp_condD rfl (fun hc19 => ?_) (fun hc19 => ?_) | refine wp_condN rfl (fun hc19 => ?_) (fun hc19 => ?_) | refine wp_condNB rfl (fun hc19 => ?_) (fun hc19 => ?_) | refine wp_cond' rfl (fun hc19 => ?_) (fun hc19 => ?_)
     ·refine wp_seq' fun K14 hK14 => ?_
      refine wp_reg ?_
      refine ol_r (r_move rfl) rfl ?_
      refine ol_r (r_assign rfl) rfl ?_
      refine ol_r (r_assign rfl) rfl ?_
      refine ol_nil (to_k0 (fun _ _ h => h) (hK14 _ _ _ _ _ ?_))
      clear hK14
      refine hQ.ret (rvs2 (rv_t rfl) (rv_t rfl)) (fun _ _ h => h) fun w hb hs hB hkd => ?_
      have h2 := chkE_bad hP hx14 rfl hc19
      have h1 := placesR_e (l := xs) (by omega) (by rw [h2]; exact hc19)
      exact ⟨none, 0, 0, by rw [h1, h2], by rw [h1]; exact Fresh.nil hb⟩
     ·refine wp_skip' (to_k0 (fun _ _ h => h) (hK10 _ _ _ _ _ ?_))
      clear hK10
      refine wp_reg ?_
      refine ol_r (r_add rfl rfl (by omega)) rfl ?_
      refine ol_r (r_move rfl) rfl ?_
      refine ol_nil (to_k0 (fun _ _ h => h) (hK7 (k + 1) _ _ ?_ ?_ (sub_cons rfl sub_nil) (sub_cons rfl (sub_cons rfl (sub_cons rfl sub_nil))) (by exact subH_nil) subH_nil))
      ·try dsimp only
       exact ⟨by omega, chkE_next hP hx14 (Decidable.not_not.1 hc19)⟩
      ·try dsimp only
       omega
    ·refine wp_exit' (to_k0 (fun _ _ h => h) (hK5 _ _ _ _ _ ?_))
     clear hK5
     refine wp_seq' fun K15 hK15 => ?_
     refine wp_reg ?_
     refine ol_r (r_move rfl) rfl ?_
     refine ol_call rfl rfl cb42 rfl (fun w1 hb1 hs1 hB1 => Calls.mono (match_places _ _ _ xs _ (hx.at hb1 hB1) (by omega)) ?_)
     rintro e w2 ⟨a23, n23, c23, rfl, hf23⟩
     refine After.fresh (id := 23) rfl hb1 hs1 hB1 hf23 ?_
     have hl23 := hf23.len; clear hf23 hB1 hs1 hb1 w2 w1
     refine ol_r (r_assign rfl) rfl ?_
     refine ol_r (r_assign rfl) rfl ?_
     refine ol_nil (to_k0 (fun _ _ h => h) (hK15 _ _ _ _ _ ?_))
     clear hK15
     refine hQ.ret (rvs2 (rv_t rfl) (rv_t rfl)) (fun _ _ h => h) fun w hb hs hB hkd => ?_
     have h1 := placesR_0 (l := xs) (by omega) (chkE_end hP (by omega))
     exact ⟨_, _, _, by rw [h1], by rw [h1]; exact ⟨hb, hs.ok 23 _ rfl⟩⟩
theorem beq_bytes (x : ByteArray) : (x == x) = true := by
  cases x
  show (ByteArray.beq _ _) = true
  unfold ByteArray.beq
  simp
theorem place_ne (x : PlaceR) : eqs [Value.int .i64 x.rank, .string x.sc.name, .int .i64 x.sc.start, .int .i64 x.sc.time] [.int .i64 x.rank, .string x.sc.name, .int .i64 x.sc.start, .int .i64 x.sc.time] = true := by simp [eqs, eqV, beq_bytes]
theorem equal_place_same (a b : Option Addr) (n ca cb : Nat) (xs : List PlaceR) (w : World) (hx : Rd encPlace w.heap.size w a n ca xs) (hy : Rd encPlace w.heap.size w b n cb xs) :
    Calls Try.prog 12 #[.slice a n ca, .slice b n cb] w fun e w' => e = .returned (.bool true) ∧ Below w.heap.size w w' := by
  have hxf := hx.fit
  have hxl := hx.len
  refine enterQ (N := 26) (C := fun _ => True) (H := []) (B := w.heap.size) (args := [_, _]) Try.func12 rfl rfl rfl (Nat.le_refl _) (Sat.nil _ _) fun Q hQ => ?_
  refine wp_seq' fun K1 hK1 => ?_
  refine wp_reg ?_
  refine ol_r (r_assign rfl) rfl ?_
  refine ol_nil (to_k0 (fun _ _ h => h) (hK1 _ _ _ _ _ ?_))
  clear hK1
  refine wp_seq' fun K2 hK2 => ?_
  refine wp_seq' fun K3 hK3 => ?_
  refine wp_reg ?_
  refine ol_r (r_move rfl) rfl ?_
  refine ol_r (r_len rfl sl25) rfl ?_
  refine ol_r (r_move rfl) rfl ?_
  refine ol_r (r_len rfl sl25) rfl ?_
  refine ol_r (r_neq rfl rfl) rfl ?_
  refine ol_nil (to_k0 (fun _ _ h => h) (hK3 _ _ _ _ _ ?_))
  clear hK3
  first | refine wp_condD rfl (fun hc10 => ?_) (fun hc10 => ?_) | refine wp_condN rfl (fun hc10 => ?_) (fun hc10 => ?_) | refine wp_condNB rfl (fun hc10 => ?_) (fun hc10 => ?_) | refine wp_cond' rfl (fun hc10 => ?_) (fun hc10 => ?_)
  ·exfalso
   omega
  ·refine wp_skip' (to_k0 (fun _ _ h => h) (hK2 _ _ _ _ _ ?_))
   clear hK2
   refine wp_seq' fun K4 hK4 => ?_
   refine wp_seq' fun K5 hK5 => ?_
   refine wp_reg ?_
   refine ol_r (r_move rfl) rfl ?_
   refine ol_r (r_len rfl sl25) rfl ?_
   refine ol_r (r_move rfl) rfl ?_
   refine ol_nil (to_k0 (fun _ _ h => h) (hK5 _ _ _ _ _ ?_))
   clear hK5
   refine wp_block' ?_
   apply wp_loopM (σ := Nat) (fun s => s ≤ n) (fun s => [(13, .int .i64 s)]) [(0, _), (1, _), (12, _)] (fun s => []) [] (fun s => n - s) (0)
   ·try dsimp only
    omega
   ·exact (sub_cons rfl sub_nil)
   ·exact (sub_cons rfl (sub_cons rfl (sub_cons rfl sub_nil)))
   ·exact subH_nil
   ·exact subH_nil
   ·rintro k hk
    intro K6 hK6
    refine wp_seq' fun K7 hK7 => ?_
    refine wp_reg ?_
    refine ol_r (r_lss rfl rfl) rfl ?_
    refine ol_nil (to_k0 (fun _ _ h => h) (hK7 _ _ _ _ _ ?_))
    clear hK7
    refine wp_seq' fun K8 hK8 => ?_
    first | refine wp_condD rfl (fun hc14 => ?_) (fun hc14 => ?_) | refine wp_condN rfl (fun hc14 => ?_) (fun hc14 => ?_) | refine wp_condNB rfl (fun hc14 => ?_) (fun hc14 => ?_) | refine wp_cond' rfl (fun hc14 => ?_) (fun hc14 => ?_)
    ·refine wp_skip' (to_k0 (fun _ _ h => h) (hK8 _ _ _ _ _ ?_))
     clear hK8
     refine wp_seq' fun K9 hK9 => ?_
     refine wp_block' ?_
     refine wp_seq' fun K10 hK10 => ?_
     refine wp_reg ?_
     refine ol_r (r_move rfl) rfl ?_
     refine ol_r (r_assign rfl) rfl ?_
     refine ol_nil (to_k0 (fun _ _ h => h) (hK10 _ _ _ _ _ ?_))
     clear hK10
     refine wp_seq' fun K11 hK11 => ?_
     refine wp_regq (by kernel_rfl) (by kernel_rfl) ?_
     refine ql_r (r_move rfl) rfl ?_
     refine ql_r (r_move rfl) rfl ?_
     refine ql_ixr hx rfl rfl sl25 (by omega) rfl fun x18 hx18 => ?_
     try simp only [Int.toNat_natCast] at hx18
     refine ql_r (r_ldw rfl (fun w1 hb1 hs1 hB1 => Rd.loads hx ty32 hx18 hb1)) rfl ?_
     refine ql_r (r_move rfl) rfl ?_
     refine ql_r (r_move rfl) rfl ?_
     refine ql_ixr hy rfl rfl sl25 (by omega) rfl fun x22 hx22 => ?_
     try simp only [Int.toNat_natCast] at hx22
     refine ql_r (r_ldw rfl (fun w1 hb1 hs1 hB1 => Rd.loads hy ty32 hx22 hb1)) rfl ?_
     obtain rfl : x18 = x22 := by rw [hx18] at hx22; cases hx22; rfl
     refine ql_r (r_nes rfl rfl (by kernel_rfl) (fun w => run_eqsG (by kernel_rfl) (by kernel_rfl) w)) rfl ?_
     refine ql_nil (to_k0 (fun _ _ h => h) (hK11 _ _ _ _ _ ?_))
     clear hK11
     first | refine wp_condD rfl (fun hc24 => ?_) (fun hc24 => ?_) | refine wp_condN rfl (fun hc24 => ?_) (fun hc24 => ?_) | refine wp_condNB rfl (fun hc24 => ?_) (fun hc24 => ?_) | refine wp_cond' rfl (fun hc24 => ?_) (fun hc24 => ?_)
     ·exfalso
      rw [place_ne] at hc24; simp at hc24
     ·refine wp_skip' (to_k0 (fun _ _ h => h) (hK9 _ _ _ _ _ ?_))
      clear hK9
      refine wp_reg ?_
      refine ol_r (r_add rfl rfl (by omega)) rfl ?_
      refine ol_r (r_move rfl) rfl ?_
      refine ol_nil (to_k0 (fun _ _ h => h) (hK6 (k + 1) _ _ ?_ ?_ (sub_cons rfl sub_nil) (sub_cons rfl (sub_cons rfl (sub_cons rfl sub_nil))) (by exact subH_nil) subH_nil))
      ·try dsimp only
       omega
      ·try dsimp only
       omega
    ·refine wp_exit' (to_k0 (fun _ _ h => h) (hK4 _ _ _ _ _ ?_))
     clear hK4
     refine wp_seq' fun K12 hK12 => ?_
     refine wp_reg ?_
     refine ol_r (r_assign rfl) rfl ?_
     refine ol_nil (to_k0 (fun _ _ h => h) (hK12 _ _ _ _ _ ?_))
     clear hK12
     refine hQ.ret (rvs1 (rv_t rfl)) (fun _ _ h => h) fun w hb hs hB hkd => ?_
     exact ⟨rfl, hb⟩
theorem law_places (a : Option Addr) (n c : Nat) (xs : List ScoreR) (x : ScoreR) (w : World) (hx : Rd encScore w.heap.size w a n c xs) (hnm : ∀ x ∈ xs, x.name.size ≤ 9223372036854775807) (hn : x.name.size ≤ 9223372036854775807) :
    Calls Try.prog 3 #[.slice a n c, encScore.val x] w fun e w' => e = .returned (.bool true) ∧ Below w.heap.size w w' := by
  refine enterQ (N := 37) (C := fun _ => True) (H := []) (B := w.heap.size) (args := [_, _]) Try.func3 rfl rfl rfl (Nat.le_refl _) (Sat.nil _ _) fun Q hQ => ?_
  refine wp_seq' fun K1 hK1 => ?_
  refine wp_reg ?_
  refine ol_box 3 rfl rfl rfl fun b3 => ?_
  refine ol_r (r_assign rfl) rfl ?_
  refine ol_nil (to_k0 (fun _ _ h => h) (hK1 _ _ _ _ _ ?_))
  clear hK1
  refine wp_seq' fun K2 hK2 => ?_
  refine wp_reg ?_
  refine ol_r (r_move rfl) rfl ?_
  refine ol_call rfl rfl cb8 rfl (fun w1 hb1 hs1 hB1 => Calls.mono (match_Places _ _ _ xs _ (hx.at hb1 hB1) hnm) ?_)
  rintro e w2 ⟨a11, n11, c11, rfl, hf11⟩
  refine After.fresh (id := 11) rfl hb1 hs1 hB1 hf11 ?_
  have hl11 := hf11.len; clear hf11 hB1 hs1 hb1 w2 w1
  refine ol_r (r_move rfl) rfl ?_
  refine ol_r (r_extract rfl rfl) rfl ?_
  refine ol_r (r_extract rfl rfl) rfl ?_
  refine ol_r (r_assign rfl) rfl ?_
  refine ol_r (r_assign rfl) rfl ?_
  refine ol_nil (to_k0 (fun _ _ h => h) (hK2 _ _ _ _ _ ?_))
  clear hK2
  refine wp_seq' fun K3 hK3 => ?_
  refine wp_reg ?_
  refine ol_r (r_move rfl) rfl ?_
  refine ol_call rfl rfl cb9 rfl (fun w1 hb1 hs1 hB1 => Calls.mono (ref5_Places _ _ _ xs _ (hx.at hb1 hB1) hnm) ?_)
  rintro e w2 ⟨a16, n16, c16, rfl, hf16⟩
  refine After.fresh (id := 16) rfl hb1 hs1 hB1 hf16 ?_
  have hl16 := hf16.len; clear hf16 hB1 hs1 hb1 w2 w1
  refine ol_r (r_move rfl) rfl ?_
  refine ol_r (r_extract rfl rfl) rfl ?_
  refine ol_r (r_extract rfl rfl) rfl ?_
  refine ol_r (r_assign rfl) rfl ?_
  refine ol_r (r_assign rfl) rfl ?_
  refine ol_nil (to_k0 (fun _ _ h => h) (hK3 _ _ _ _ _ ?_))
  clear hK3
  refine wp_seq' fun K4 hK4 => ?_
  refine wp_regq (by kernel_rfl) (by kernel_rfl) ?_
  obtain rfl : n11 = n16 := by rw [← hl11, ← hl16]
  refine ql_r (r_lda (id := 3) (n := 3) rfl rfl rfl ag24) rfl ?_
  refine ql_call rfl rfl cb10 rfl (fun w1 hb1 hs1 hB1 => match_CheckEntry x _ hn) ?_
  refine ql_r (r_lda (id := 3) (n := 3) rfl rfl rfl ag24) rfl ?_
  refine ql_call rfl rfl cb11 rfl (fun w1 hb1 hs1 hB1 => ref5_CheckEntry x _ hn) ?_
  refine ql_r (r_eql rfl rfl) rfl ?_
  refine ql_r (r_move rfl) rfl ?_
  refine ql_split (d := 24) rfl (fun hs24 => ?_) (fun hs24 => ?_)
  ·have phs24 := hs24; try simp only [decide_eq_true_eq, decide_eq_false_iff_not, Bool.not_eq_true', Bool.not_eq_false', Bool.not_true, Bool.not_false] at phs24
   refine ql_g rfl rfl hs24 ?_
   refine ql_r (r_move rfl) rfl ?_
   refine ql_g rfl rfl hs24 ?_
   refine ql_r (r_move rfl) rfl ?_
   refine ql_g rfl rfl hs24 ?_
   refine ql_call rfl rfl cb12 rfl (fun w1 hb1 hs1 hB1 => equal_place_same _ _ _ _ _ _ _ (Sat.rd hs1 (id := 11) rfl rfl) (Sat.rd hs1 (id := 16) rfl rfl)) ?_
   refine ql_r (r_pickT rfl hs24 rfl) rfl ?_
   refine ql_r (r_move rfl) rfl ?_
   refine ql_split (d := 29) rfl (fun hs29 => ?_) (fun hs29 => ?_)
   ·have phs29 := hs29; try simp only [decide_eq_true_eq, decide_eq_false_iff_not, Bool.not_eq_true', Bool.not_eq_false', Bool.not_true, Bool.not_false] at phs29
    refine ql_g rfl rfl hs29 ?_
    refine ql_r (r_move rfl) rfl ?_
    refine ql_g rfl rfl hs29 ?_
    refine ql_r (r_move rfl) rfl ?_
    refine ql_g rfl rfl hs29 ?_
    refine ql_r (r_eql rfl rfl) rfl ?_
    refine ql_r (r_pickT rfl hs29 rfl) rfl ?_
    refine ql_r (r_move rfl) rfl ?_
    refine ql_split (d := 34) rfl (fun hs34 => ?_) (fun hs34 => ?_)
    ·have phs34 := hs34; try simp only [decide_eq_true_eq, decide_eq_false_iff_not, Bool.not_eq_true', Bool.not_eq_false', Bool.not_true, Bool.not_false] at phs34
     refine ql_g rfl rfl hs34 ?_
     refine ql_call rfl rfl cb13 rfl (fun w1 hb1 hs1 hB1 => law5_told _) ?_
     refine ql_r (r_pickT rfl hs34 rfl) rfl ?_
     refine ql_r (r_assign rfl) rfl ?_
     refine ql_nil (to_k0 (fun _ _ h => h) (hK4 _ _ _ _ _ ?_))
     clear hK4
     refine hQ.ret (rvs1 (rv_t rfl)) (fun _ _ h => h) fun w hb hs hB hkd => ?_
     first
       | exact ⟨rfl, hb⟩
       | (exfalso; simp at hs24; done)
       | (exfalso; simp at hs29; done)
       | (exfalso; simp at hs34; done)
    ·have phs34 := hs34; try simp only [decide_eq_true_eq, decide_eq_false_iff_not, Bool.not_eq_true', Bool.not_eq_false', Bool.not_true, Bool.not_false] at phs34
     refine ql_s rfl rfl hs34 rfl ?_
     refine ql_r (r_pickF rfl hs34 rfl) rfl ?_
     refine ql_r (r_assign rfl) rfl ?_
     refine ql_nil (to_k0 (fun _ _ h => h) (hK4 _ _ _ _ _ ?_))
     clear hK4
     refine hQ.ret (rvs1 (rv_t rfl)) (fun _ _ h => h) fun w hb hs hB hkd => ?_
     first
       | exact ⟨rfl, hb⟩
       | (exfalso; simp at hs24; done)
       | (exfalso; simp at hs29; done)
       | (exfalso; simp at hs34; done)
   ·have phs29 := hs29; try simp only [decide_eq_true_eq, decide_eq_false_iff_not, Bool.not_eq_true', Bool.not_eq_false', Bool.not_true, Bool.not_false] at phs29
    refine ql_s rfl rfl hs29 rfl ?_
    refine ql_s rfl rfl hs29 rfl ?_
    refine ql_s rfl rfl hs29 rfl ?_
    refine ql_r (r_pickF rfl hs29 rfl) rfl ?_
    refine ql_r (r_move rfl) rfl ?_
    refine ql_s rfl rfl rfl rfl ?_
    refine ql_r (r_pickF rfl rfl rfl) rfl ?_
    refine ql_r (r_assign rfl) rfl ?_
    refine ql_nil (to_k0 (fun _ _ h => h) (hK4 _ _ _ _ _ ?_))
    clear hK4
    refine hQ.ret (rvs1 (rv_t rfl)) (fun _ _ h => h) fun w hb hs hB hkd => ?_
    first
      | exact ⟨rfl, hb⟩
      | (exfalso; simp at hs24; done)
      | (exfalso; simp at hs29; done)
      | (exfalso; simp at hs34; done)
  ·have phs24 := hs24; try simp only [decide_eq_true_eq, decide_eq_false_iff_not, Bool.not_eq_true', Bool.not_eq_false', Bool.not_true, Bool.not_false] at phs24
   refine ql_s rfl rfl hs24 rfl ?_
   refine ql_s rfl rfl hs24 rfl ?_
   refine ql_s rfl rfl hs24 rfl ?_
   refine ql_r (r_pickF rfl hs24 rfl) rfl ?_
   refine ql_r (r_move rfl) rfl ?_
   refine ql_s rfl rfl rfl rfl ?_
   refine ql_s rfl rfl rfl rfl ?_
   refine ql_s rfl rfl rfl rfl ?_
   refine ql_r (r_pickF rfl rfl rfl) rfl ?_
   refine ql_r (r_move rfl) rfl ?_
   refine ql_s rfl rfl rfl rfl ?_
   refine ql_r (r_pickF rfl rfl rfl) rfl ?_
   refine ql_r (r_assign rfl) rfl ?_
   refine ql_nil (to_k0 (fun _ _ h => h) (hK4 _ _ _ _ _ ?_))
   clear hK4
   refine hQ.ret (rvs1 (rv_t rfl)) (fun _ _ h => h) fun w hb hs hB hkd => ?_
   first
     | exact ⟨rfl, hb⟩
     | (exfalso; simp at hs24; done)
     | (exfalso; simp at hs29; done)
     | (exfalso; simp at hs34; done)
end Go.Proofs.Ytjflbnbofedlkaa
