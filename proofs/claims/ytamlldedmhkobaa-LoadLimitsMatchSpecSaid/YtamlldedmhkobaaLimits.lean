/-
  Limits, Power, Pulse: program and reference; the walk of LoadLimitsMatchSpec.
-/
import Derived.Test.YtamlldedmhkobaaLimM
import Derived.Test.YtamlldedmhkobaaHard
import Derived.Test.YtamlldedmhkobaaZones
import Derived.Test.YtamlldedmhkobaaLoadMore
namespace Go.Proofs.Ytamlldedmhkobaa
open Go Go.RowKit Hx
set_option linter.unusedVariables false
set_option linter.unusedSimpArgs false
set_option maxRecDepth 8000
theorem encL_next {t : Int} {ps : List Int} {k : Nat} {p : Int} (h : ps[k]? = some p) : encI.enc ((limL t ps).take k) ++ [.int .i64 (t * p / 100)] = encI.enc ((limL t ps).take (k + 1)) := by
  rw [take_succ_get (limL_get h), encI_snoc]; rfl
theorem take_get {ls : List Int} {k i : Nat} {x : Int} (h : (ls.take k)[i]? = some x) : ls[i]? = some x := by
  rw [List.getElem?_take] at h
  split at h
  · exact h
  · cases h
theorem load_Limits (t : Int) (a : Option Addr) (n cap : Nat) (ps : List Int) (w : World) (hl : Rd encI w.heap.size w a n cap ps) :
    Calls Try.prog 55 #[.int .i64 t, .slice a n cap] w fun e w' => ∃ (out : List Int) (c : Int) (b : Option Addr) (m k : Nat), LimR t ps out c ∧ e = .returned (.tuple #[.slice b m k, .int .i64 c]) ∧ Fresh encI 3 w w' b m k out := by
  have hn := hl.len
  have hfit := hl.fit
  subst hn
  refine enterQ (N := 56) (C := fun _ => True) (H := []) (B := w.heap.size) (args := [_, _]) Try.func55 rfl rfl rfl (Nat.le_refl _) (Sat.nil _ _) fun Q hQ => ?_
  refine wp_seq' fun K1 hK1 => ?_
  refine wp_reg ?_
  refine ol_r (r_assign rfl) rfl ?_
  refine ol_r (r_assign rfl) rfl ?_
  refine ol_nil (to_k0 (fun _ _ h => h) (hK1 _ _ _ ?_))
  clear hK1
  refine wp_seq' fun K2 hK2 => ?_
  refine wp_seq' fun K3 hK3 => ?_
  refine wp_reg ?_
  refine ol_r (r_move rfl) rfl ?_
  refine ol_call rfl rfl cb67 rfl (fun w1 hb1 hs1 hB1 => Calls.mono (load_in _ _ _ _) ?_)
  rintro e w2 ⟨rfl, hb2⟩
  refine After.below rfl hb1 hs1 hB1 hb2 ?_
  clear hb2 hB1 hs1 hb1 w2 w1
  refine ol_r (r_not rfl) rfl ?_
  refine ol_nil (to_k0 (fun _ _ h => h) (hK3 _ _ _ ?_))
  clear hK3
  first | refine wp_condD rfl (fun hc12 => ?_) (fun hc12 => ?_) | refine wp_condN rfl (fun hc12 => ?_) (fun hc12 => ?_) | refine wp_condNB rfl (fun hc12 => ?_) (fun hc12 => ?_) | refine wp_cond' rfl (fun hc12 => ?_) (fun hc12 => ?_)
  · refine wp_seq' fun K4 hK4 => ?_
    refine wp_reg ?_
    refine ol_r (r_assign rfl) rfl ?_
    refine ol_r (r_assign rfl) rfl ?_
    refine ol_nil (to_k0 (fun _ _ h => h) (hK4 _ _ _ ?_))
    clear hK4
    refine hQ.ret (rvs2 (rv_t rfl) (rv_t rfl)) (fun _ _ h => h) fun w hb hs hB hkd => ?_
    first
      | (refine ⟨[], 9, none, 0, 0, LimR.r9 hc12, rfl, Fresh.nil hb⟩; done)
      | (refine ⟨[], _, none, 0, 0, LimR.rz hc12 hc16, rfl, Fresh.nil hb⟩; done)
      | (refine ⟨[], _, none, 0, 0, LimR.rx hc12 (Decidable.not_not.1 hc16) (all_max (by omega) (by simpa using hc25)), rfl, Fresh.nil hb⟩; done)
      | (refine ⟨[], _, none, 0, 0, LimR.ra hc12 hE h1000 (by rw [← limL_len t ps]; exact AscK.bad (k := k) (by omega) (take_get (by rw [← hx50]; congr 1; omega)) (take_get hx45) (by simpa using hc53)), rfl, Fresh.nil hb⟩; done)
      | (have hk' : k = ps.length := by omega
         subst hk'
         refine ⟨limL t ps, _, oa, _, oc, LimR.r0 hc12 hE h1000 hA, rfl, hb, ?_⟩
         have := hs.ok 7 _ rfl
         rw [List.take_of_length_le (by rw [limL_len]; exact Nat.le_refl _)] at this
         exact this)
  · refine wp_skip' (to_k0 (fun _ _ h => h) (hK2 _ _ _ ?_))
    clear hK2
    refine wp_seq' fun K5 hK5 => ?_
    refine wp_seq' fun K6 hK6 => ?_
    refine wp_reg ?_
    refine ol_r (r_move rfl) rfl ?_
    refine ol_call rfl rfl cb85 rfl (fun w1 hb1 hs1 hB1 => Calls.mono (effort_CheckZones _ _ _ ps _ (hl.at hb1 hB1)) ?_)
    rintro e w2 ⟨rfl, hb2⟩
    refine After.below rfl hb1 hs1 hB1 hb2 ?_
    clear hb2 hB1 hs1 hb1 w2 w1
    refine ol_r (r_assign rfl) rfl ?_
    refine ol_nil (to_k0 (fun _ _ h => h) (hK6 _ _ _ ?_))
    clear hK6
    refine wp_seq' fun K7 hK7 => ?_
    refine wp_reg ?_
    refine ol_r (r_move rfl) rfl ?_
    refine ol_r (r_neq rfl rfl) rfl ?_
    refine ol_nil (to_k0 (fun _ _ h => h) (hK7 _ _ _ ?_))
    clear hK7
    first | refine wp_condD rfl (fun hc16 => ?_) (fun hc16 => ?_) | refine wp_condN rfl (fun hc16 => ?_) (fun hc16 => ?_) | refine wp_condNB rfl (fun hc16 => ?_) (fun hc16 => ?_) | refine wp_cond' rfl (fun hc16 => ?_) (fun hc16 => ?_)
    · refine wp_seq' fun K8 hK8 => ?_
      refine wp_reg ?_
      refine ol_r (r_move rfl) rfl ?_
      refine ol_r (r_assign rfl) rfl ?_
      refine ol_r (r_assign rfl) rfl ?_
      refine ol_nil (to_k0 (fun _ _ h => h) (hK8 _ _ _ ?_))
      clear hK8
      refine hQ.ret (rvs2 (rv_t rfl) (rv_t rfl)) (fun _ _ h => h) fun w hb hs hB hkd => ?_
      first
        | (refine ⟨[], 9, none, 0, 0, LimR.r9 hc12, rfl, Fresh.nil hb⟩; done)
        | (refine ⟨[], _, none, 0, 0, LimR.rz hc12 hc16, rfl, Fresh.nil hb⟩; done)
        | (refine ⟨[], _, none, 0, 0, LimR.rx hc12 (Decidable.not_not.1 hc16) (all_max (by omega) (by simpa using hc25)), rfl, Fresh.nil hb⟩; done)
        | (refine ⟨[], _, none, 0, 0, LimR.ra hc12 hE h1000 (by rw [← limL_len t ps]; exact AscK.bad (k := k) (by omega) (take_get (by rw [← hx50]; congr 1; omega)) (take_get hx45) (by simpa using hc53)), rfl, Fresh.nil hb⟩; done)
        | (have hk' : k = ps.length := by omega
           subst hk'
           refine ⟨limL t ps, _, oa, _, oc, LimR.r0 hc12 hE h1000 hA, rfl, hb, ?_⟩
           have := hs.ok 7 _ rfl
           rw [List.take_of_length_le (by rw [limL_len]; exact Nat.le_refl _)] at this
           exact this)
    · refine wp_skip' (to_k0 (fun _ _ h => h) (hK5 _ _ _ ?_))
      clear hK5
      refine wp_seq' fun K9 hK9 => ?_
      refine wp_seq' fun K10 hK10 => ?_
      refine wp_reg ?_
      refine ol_r (r_move rfl) rfl ?_
      refine ol_r (r_len rfl sl22) rfl ?_
      refine ol_r (r_gtr rfl rfl) rfl ?_
      refine ol_r (r_move rfl) rfl ?_
      refine ol_split (d := 21) rfl (fun hs21 => ?_) (fun hs21 => ?_)
      · have phs21 := hs21; try simp only [decide_eq_true_eq, decide_eq_false_iff_not, Bool.not_eq_true', Bool.not_eq_false', Bool.not_true, Bool.not_false] at phs21
        refine ol_g rfl rfl hs21 ?_
        refine ol_r (r_move rfl) rfl ?_
        refine ol_g rfl rfl hs21 ?_
        refine ol_call rfl rfl cb65 rfl (fun w1 hb1 hs1 hB1 => Calls.mono (max_int _ _ _ ps _ (hl.at hb1 hB1) (by omega)) ?_)
        rintro e w2 ⟨rfl, hb2⟩
        refine After.below rfl hb1 hs1 hB1 hb2 ?_
        clear hb2 hB1 hs1 hb1 w2 w1
        refine ol_g rfl rfl hs21 ?_
        refine ol_r (r_gtr rfl rfl) rfl ?_
        refine ol_r (r_pickT rfl hs21 rfl) rfl ?_
        refine ol_nil (to_k0 (fun _ _ h => h) (hK10 _ _ _ ?_))
        clear hK10
        first | refine wp_condD rfl (fun hc25 => ?_) (fun hc25 => ?_) | refine wp_condN rfl (fun hc25 => ?_) (fun hc25 => ?_) | refine wp_condNB rfl (fun hc25 => ?_) (fun hc25 => ?_) | refine wp_cond' rfl (fun hc25 => ?_) (fun hc25 => ?_)
        · refine wp_seq' fun K11 hK11 => ?_
          refine wp_reg ?_
          refine ol_r (r_assign rfl) rfl ?_
          refine ol_r (r_assign rfl) rfl ?_
          refine ol_nil (to_k0 (fun _ _ h => h) (hK11 _ _ _ ?_))
          clear hK11
          refine hQ.ret (rvs2 (rv_t rfl) (rv_t rfl)) (fun _ _ h => h) fun w hb hs hB hkd => ?_
          first
            | (refine ⟨[], 9, none, 0, 0, LimR.r9 hc12, rfl, Fresh.nil hb⟩; done)
            | (refine ⟨[], _, none, 0, 0, LimR.rz hc12 hc16, rfl, Fresh.nil hb⟩; done)
            | (refine ⟨[], _, none, 0, 0, LimR.rx hc12 (Decidable.not_not.1 hc16) (all_max (by omega) (by simpa using hc25)), rfl, Fresh.nil hb⟩; done)
            | (refine ⟨[], _, none, 0, 0, LimR.ra hc12 hE h1000 (by rw [← limL_len t ps]; exact AscK.bad (k := k) (by omega) (take_get (by rw [← hx50]; congr 1; omega)) (take_get hx45) (by simpa using hc53)), rfl, Fresh.nil hb⟩; done)
            | (have hk' : k = ps.length := by omega
               subst hk'
               refine ⟨limL t ps, _, oa, _, oc, LimR.r0 hc12 hE h1000 hA, rfl, hb, ?_⟩
               have := hs.ok 7 _ rfl
               rw [List.take_of_length_le (by rw [limL_len]; exact Nat.le_refl _)] at this
               exact this)
        · refine wp_skip' (to_k0 (fun _ _ h => h) (hK9 _ _ _ ?_))
          clear hK9
          refine wp_seq' fun K12 hK12 => ?_
          refine wp_reg ?_
          refine ol_nilrow 7 3 1 ?_
          refine ol_r (r_assign rfl) rfl ?_
          refine ol_nil (to_k0 (fun _ _ h => h) (hK12 _ _ _ ?_))
          clear hK12
          refine wp_seq' fun K13 hK13 => ?_
          refine wp_seq' fun K14 hK14 => ?_
          refine wp_reg ?_
          have hE : zonesC ps = 0 := Decidable.not_not.1 hc16
          have hzk := zonesC_ok hE
          have ht := inB_iff.1 hc12
          have h1000 : ∀ x ∈ ps, x ≤ 1000 := fun x hx => by
            have h1 := maxV_ge hx
            have h2 := List.length_pos_of_mem hx
            first
              | omega
              | (exfalso; omega)
          refine ol_r (r_move rfl) rfl ?_
          refine ol_r (r_len rfl sl22) rfl ?_
          refine ol_r (r_move rfl) rfl ?_
          refine ol_nil (to_k0 (fun _ _ h => h) (hK14 _ _ _ ?_))
          clear hK14
          refine wp_block' ?_
          apply wp_loopM (σ := Nat × Option Addr × Nat) (fun s => s.1 ≤ ps.length ∧ AscK (limL t ps) s.1) (fun s => [(28, .int .i64 s.1), (7, .slice s.2.1 s.1 s.2.2)]) [(0, _), (26, _), (27, _)] (fun s => [(7, .row s.2.1 s.1 s.2.2 (encI.enc ((limL t ps).take s.1)) 3 1)]) [] (fun s => ps.length - s.1) ((0, none, 0))
          · try dsimp only
            exact ⟨Nat.zero_le _, AscK.zero _⟩
          · exact (sub_cons rfl (sub_cons rfl sub_nil))
          · exact (sub_cons rfl (sub_cons rfl (sub_cons rfl sub_nil)))
          · exact (subH_row rfl (by first | (dsimp only; rfl; done) | (rfl; done) | (dsimp only; done)) subH_nil)
          · exact subH_nil
          · rintro ⟨k, oa, oc⟩ ⟨hk, hA⟩
            dsimp only at hk hA ⊢
            intro K15 hK15
            refine wp_seq' fun K16 hK16 => ?_
            refine wp_reg ?_
            refine ol_r (r_lss rfl rfl) rfl ?_
            refine ol_nil (to_k0 (fun _ _ h => h) (hK16 _ _ _ ?_))
            clear hK16
            refine wp_seq' fun K17 hK17 => ?_
            first | refine wp_condD rfl (fun hc29 => ?_) (fun hc29 => ?_) | refine wp_condN rfl (fun hc29 => ?_) (fun hc29 => ?_) | refine wp_condNB rfl (fun hc29 => ?_) (fun hc29 => ?_) | refine wp_cond' rfl (fun hc29 => ?_) (fun hc29 => ?_)
            · refine wp_skip' (to_k0 (fun _ _ h => h) (hK17 _ _ _ ?_))
              clear hK17
              refine wp_seq' fun K18 hK18 => ?_
              refine wp_block' ?_
              refine wp_seq' fun K19 hK19 => ?_
              refine wp_reg ?_
              refine ol_r (r_move rfl) rfl ?_
              refine ol_ixr hl rfl rfl sl22 (by omega) rfl fun x31 hx31 => ?_
              try simp only [Int.toNat_natCast] at hx31
              refine ol_r (r_ldw rfl (fun w1 hb1 hs1 hB1 => show Loads _ _ _ _ (.int .i64 x31) from Rd.loads hl ty3 hx31 hb1)) rfl ?_
              refine ol_r (r_assign rfl) rfl ?_
              refine ol_r (r_assign rfl) rfl ?_
              refine ol_nil (to_k0 (fun _ _ h => h) (hK19 _ _ _ ?_))
              clear hK19
              refine wp_seq' fun K20 hK20 => ?_
              refine wp_reg ?_
              refine ol_r (r_move rfl) rfl ?_
              refine ol_r (r_move rfl) rfl ?_
              refine ol_r (r_move rfl) rfl ?_
              have qx := hzk.2.1 _ (List.mem_of_getElem? hx31)
              have qy := h1000 _ (List.mem_of_getElem? hx31)
              have qm := mul_bd (a := t) (b := x31) (A := 10000) (B := 1000) (by omega) (by omega) (by omega) (by omega)
              refine ol_r (r_mul rfl rfl (by omega)) rfl ?_
              first | refine ol_r (r_quo rfl rfl (by omega)) rfl ?_ | refine ol_r (r_tquo rfl rfl (by omega)) rfl ?_
              refine ol_bs1 38 rfl rfl rw22 rfl rfl rfl fun a38 => ?_
              refine ol_append1 (id := 7) (id2 := 38) rfl rfl rfl rfl rfl rw22 (by omega) rfl fun a39 c39 => ?_
              refine ol_r (r_assign rfl) rfl ?_
              refine ol_nil (to_k0 (fun _ _ h => h) (hK20 _ _ _ ?_))
              clear hK20
              refine wp_seq' fun K21 hK21 => ?_
              refine wp_regq (by kernel_rfl) (by kernel_rfl) ?_
              rw [encL_next hx31]
              have ql : (limL t ps).length = ps.length := limL_len _ _
              have qt : ((limL t ps).take (k + 1)).length = k + 1 := by rw [List.length_take]; omega
              refine ql_r (r_move rfl) rfl ?_
              refine ql_r (r_gtr rfl rfl) rfl ?_
              refine ql_r (r_move rfl) rfl ?_
              refine ql_split (d := 42) rfl (fun hs42 => ?_) (fun hs42 => ?_)
              · have phs42 := hs42; try simp only [decide_eq_true_eq, decide_eq_false_iff_not, Bool.not_eq_true', Bool.not_eq_false', Bool.not_true, Bool.not_false] at phs42
                refine ql_g rfl rfl hs42 ?_
                refine ql_r (r_move rfl) rfl ?_
                refine ql_g rfl rfl hs42 ?_
                refine ql_r (r_move rfl) rfl ?_
                refine ql_g rfl rfl hs42 ?_
                refine ql_ixo (id := 7) encI _ rfl rfl rfl rfl sl22 (by omega) (by omega) rfl fun x45 hx45 => ?_
                try simp only [Int.toNat_natCast] at hx45
                try simp only [Int.toNat_natCast] at hx45
                refine ql_g rfl rfl hs42 ?_
                refine ql_r (r_ldw rfl (fun w1 hb1 hs1 hB1 => show Loads _ _ _ _ (.int .i64 x45) from ld_own (id := 7) hs1 rfl rfl ty3 hx45)) rfl ?_
                refine ql_g rfl rfl hs42 ?_
                refine ql_r (r_move rfl) rfl ?_
                refine ql_g rfl rfl hs42 ?_
                refine ql_r (r_move rfl) rfl ?_
                refine ql_g rfl rfl hs42 ?_
                refine ql_r (r_sub rfl rfl (by omega)) rfl ?_
                refine ql_g rfl rfl hs42 ?_
                refine ql_ixo (id := 7) encI _ rfl rfl rfl rfl sl22 (by omega) (by omega) rfl fun x50 hx50 => ?_
                try simp only [Int.toNat_natCast] at hx50
                try simp only [Int.toNat_natCast] at hx50
                refine ql_g rfl rfl hs42 ?_
                refine ql_r (r_ldw rfl (fun w1 hb1 hs1 hB1 => show Loads _ _ _ _ (.int .i64 x50) from ld_own (id := 7) hs1 rfl rfl ty3 hx50)) rfl ?_
                refine ql_g rfl rfl hs42 ?_
                refine ql_r (r_leq rfl rfl) rfl ?_
                refine ql_r (r_pickT rfl hs42 rfl) rfl ?_
                refine ql_nil (to_k0 (fun _ _ h => h) (hK21 _ _ _ ?_))
                clear hK21
                first | refine wp_condD rfl (fun hc53 => ?_) (fun hc53 => ?_) | refine wp_condN rfl (fun hc53 => ?_) (fun hc53 => ?_) | refine wp_condNB rfl (fun hc53 => ?_) (fun hc53 => ?_) | refine wp_cond' rfl (fun hc53 => ?_) (fun hc53 => ?_)
                · refine wp_seq' fun K22 hK22 => ?_
                  refine wp_reg ?_
                  refine ol_r (r_assign rfl) rfl ?_
                  refine ol_r (r_assign rfl) rfl ?_
                  refine ol_nil (to_k0 (fun _ _ h => h) (hK22 _ _ _ ?_))
                  clear hK22
                  refine hQ.ret (rvs2 (rv_t rfl) (rv_t rfl)) (fun _ _ h => h) fun w hb hs hB hkd => ?_
                  first
                    | (refine ⟨[], 9, none, 0, 0, LimR.r9 hc12, rfl, Fresh.nil hb⟩; done)
                    | (refine ⟨[], _, none, 0, 0, LimR.rz hc12 hc16, rfl, Fresh.nil hb⟩; done)
                    | (refine ⟨[], _, none, 0, 0, LimR.rx hc12 (Decidable.not_not.1 hc16) (all_max (by omega) (by simpa using hc25)), rfl, Fresh.nil hb⟩; done)
                    | (refine ⟨[], _, none, 0, 0, LimR.ra hc12 hE h1000 (by rw [← limL_len t ps]; exact AscK.bad (k := k) (by omega) (take_get (by rw [← hx50]; congr 1; omega)) (take_get hx45) (by simpa using hc53)), rfl, Fresh.nil hb⟩; done)
                    | (have hk' : k = ps.length := by omega
                       subst hk'
                       refine ⟨limL t ps, _, oa, _, oc, LimR.r0 hc12 hE h1000 hA, rfl, hb, ?_⟩
                       have := hs.ok 7 _ rfl
                       rw [List.take_of_length_le (by rw [limL_len]; exact Nat.le_refl _)] at this
                       exact this)
                · refine wp_skip' (to_k0 (fun _ _ h => h) (hK18 _ _ _ ?_))
                  clear hK18
                  refine wp_reg ?_
                  refine ol_r (r_add rfl rfl (by omega)) rfl ?_
                  refine ol_r (r_move rfl) rfl ?_
                  refine ol_nil (to_k0 (fun _ _ h => h) (hK15 ((k + 1, _, _)) _ _ ?_ ?_ (sub_cons rfl (sub_cons rfl sub_nil)) (sub_cons rfl (sub_cons rfl (sub_cons rfl sub_nil))) (by exact (subH_row rfl (by first | (dsimp only; rfl; done) | (rfl; done) | (dsimp only; done)) subH_nil)) subH_nil))
                  · try dsimp only
                    first
                      | exact ⟨by omega, hA.next (take_get (by rw [← hx50]; congr 1; omega)) (take_get hx45) (by simpa using hc53)⟩
                      | exact ⟨by omega, hA.one (by omega)⟩
                  · try dsimp only
                    omega
              · have phs42 := hs42; try simp only [decide_eq_true_eq, decide_eq_false_iff_not, Bool.not_eq_true', Bool.not_eq_false', Bool.not_true, Bool.not_false] at phs42
                refine ql_s rfl rfl hs42 rfl ?_
                refine ql_s rfl rfl hs42 rfl ?_
                refine ql_s rfl rfl hs42 rfl ?_
                refine ql_s rfl rfl hs42 rfl ?_
                refine ql_s rfl rfl hs42 rfl ?_
                refine ql_s rfl rfl hs42 rfl ?_
                refine ql_s rfl rfl hs42 rfl ?_
                refine ql_s rfl rfl hs42 rfl ?_
                refine ql_s rfl rfl hs42 rfl ?_
                refine ql_s rfl rfl hs42 rfl ?_
                refine ql_r (r_pickF rfl hs42 rfl) rfl ?_
                refine ql_nil (to_k0 (fun _ _ h => h) (hK21 _ _ _ ?_))
                clear hK21
                refine wp_condF rfl ?_
                refine wp_skip' (to_k0 (fun _ _ h => h) (hK18 _ _ _ ?_))
                clear hK18
                refine wp_reg ?_
                refine ol_r (r_add rfl rfl (by omega)) rfl ?_
                refine ol_r (r_move rfl) rfl ?_
                refine ol_nil (to_k0 (fun _ _ h => h) (hK15 ((k + 1, _, _)) _ _ ?_ ?_ (sub_cons rfl (sub_cons rfl sub_nil)) (sub_cons rfl (sub_cons rfl (sub_cons rfl sub_nil))) (by exact (subH_row rfl (by first | (dsimp only; rfl; done) | (rfl; done) | (dsimp only; done)) subH_nil)) subH_nil))
                · try dsimp only
                  first
                    | exact ⟨by omega, hA.next (take_get (by rw [← hx50]; congr 1; omega)) (take_get hx45) (by simpa using hc53)⟩
                    | exact ⟨by omega, hA.one (by omega)⟩
                · try dsimp only
                  omega
            · refine wp_exit' (to_k0 (fun _ _ h => h) (hK13 _ _ _ ?_))
              clear hK13
              refine wp_seq' fun K23 hK23 => ?_
              refine wp_reg ?_
              refine ol_r (r_move rfl) rfl ?_
              refine ol_r (r_assign rfl) rfl ?_
              refine ol_r (r_assign rfl) rfl ?_
              refine ol_nil (to_k0 (fun _ _ h => h) (hK23 _ _ _ ?_))
              clear hK23
              refine hQ.ret (rvs2 (rv_t rfl) (rv_t rfl)) (fun _ _ h => h) fun w hb hs hB hkd => ?_
              first
                | (refine ⟨[], 9, none, 0, 0, LimR.r9 hc12, rfl, Fresh.nil hb⟩; done)
                | (refine ⟨[], _, none, 0, 0, LimR.rz hc12 hc16, rfl, Fresh.nil hb⟩; done)
                | (refine ⟨[], _, none, 0, 0, LimR.rx hc12 (Decidable.not_not.1 hc16) (all_max (by omega) (by simpa using hc25)), rfl, Fresh.nil hb⟩; done)
                | (refine ⟨[], _, none, 0, 0, LimR.ra hc12 hE h1000 (by rw [← limL_len t ps]; exact AscK.bad (k := k) (by omega) (take_get (by rw [← hx50]; congr 1; omega)) (take_get hx45) (by simpa using hc53)), rfl, Fresh.nil hb⟩; done)
                | (have hk' : k = ps.length := by omega
                   subst hk'
                   refine ⟨limL t ps, _, oa, _, oc, LimR.r0 hc12 hE h1000 hA, rfl, hb, ?_⟩
                   have := hs.ok 7 _ rfl
                   rw [List.take_of_length_le (by rw [limL_len]; exact Nat.le_refl _)] at this
                   exact this)
      · have phs21 := hs21; try simp only [decide_eq_true_eq, decide_eq_false_iff_not, Bool.not_eq_true', Bool.not_eq_false', Bool.not_true, Bool.not_false] at phs21
        refine ol_s rfl rfl hs21 rfl ?_
        refine ol_s rfl rfl hs21 rfl ?_
        refine ol_s rfl rfl hs21 rfl ?_
        refine ol_r (r_pickF rfl hs21 rfl) rfl ?_
        refine ol_nil (to_k0 (fun _ _ h => h) (hK10 _ _ _ ?_))
        clear hK10
        refine wp_condF rfl ?_
        refine wp_skip' (to_k0 (fun _ _ h => h) (hK9 _ _ _ ?_))
        clear hK9
        refine wp_seq' fun K24 hK24 => ?_
        refine wp_reg ?_
        refine ol_nilrow 7 3 1 ?_
        refine ol_r (r_assign rfl) rfl ?_
        refine ol_nil (to_k0 (fun _ _ h => h) (hK24 _ _ _ ?_))
        clear hK24
        refine wp_seq' fun K25 hK25 => ?_
        refine wp_seq' fun K26 hK26 => ?_
        refine wp_reg ?_
        have hE : zonesC ps = 0 := Decidable.not_not.1 hc16
        have hzk := zonesC_ok hE
        have ht := inB_iff.1 hc12
        have h1000 : ∀ x ∈ ps, x ≤ 1000 := fun x hx => by
          have h1 := maxV_ge hx
          have h2 := List.length_pos_of_mem hx
          first
            | omega
            | (exfalso; omega)
        refine ol_r (r_move rfl) rfl ?_
        refine ol_r (r_len rfl sl22) rfl ?_
        refine ol_r (r_move rfl) rfl ?_
        refine ol_nil (to_k0 (fun _ _ h => h) (hK26 _ _ _ ?_))
        clear hK26
        refine wp_block' ?_
        apply wp_loopM (σ := Nat × Option Addr × Nat) (fun s => s.1 ≤ ps.length ∧ AscK (limL t ps) s.1) (fun s => [(28, .int .i64 s.1), (7, .slice s.2.1 s.1 s.2.2)]) [(0, _), (26, _), (27, _)] (fun s => [(7, .row s.2.1 s.1 s.2.2 (encI.enc ((limL t ps).take s.1)) 3 1)]) [] (fun s => ps.length - s.1) ((0, none, 0))
        · try dsimp only
          exact ⟨Nat.zero_le _, AscK.zero _⟩
        · exact (sub_cons rfl (sub_cons rfl sub_nil))
        · exact (sub_cons rfl (sub_cons rfl (sub_cons rfl sub_nil)))
        · exact (subH_row rfl (by first | (dsimp only; rfl; done) | (rfl; done) | (dsimp only; done)) subH_nil)
        · exact subH_nil
        · rintro ⟨k, oa, oc⟩ ⟨hk, hA⟩
          dsimp only at hk hA ⊢
          intro K27 hK27
          refine wp_seq' fun K28 hK28 => ?_
          refine wp_reg ?_
          refine ol_r (r_lss rfl rfl) rfl ?_
          refine ol_nil (to_k0 (fun _ _ h => h) (hK28 _ _ _ ?_))
          clear hK28
          refine wp_seq' fun K29 hK29 => ?_
          first | refine wp_condD rfl (fun hc29 => ?_) (fun hc29 => ?_) | refine wp_condN rfl (fun hc29 => ?_) (fun hc29 => ?_) | refine wp_condNB rfl (fun hc29 => ?_) (fun hc29 => ?_) | refine wp_cond' rfl (fun hc29 => ?_) (fun hc29 => ?_)
          · refine wp_skip' (to_k0 (fun _ _ h => h) (hK29 _ _ _ ?_))
            clear hK29
            refine wp_seq' fun K30 hK30 => ?_
            refine wp_block' ?_
            refine wp_seq' fun K31 hK31 => ?_
            refine wp_reg ?_
            refine ol_r (r_move rfl) rfl ?_
            refine ol_ixr hl rfl rfl sl22 (by omega) rfl fun x31 hx31 => ?_
            try simp only [Int.toNat_natCast] at hx31
            refine ol_r (r_ldw rfl (fun w1 hb1 hs1 hB1 => show Loads _ _ _ _ (.int .i64 x31) from Rd.loads hl ty3 hx31 hb1)) rfl ?_
            refine ol_r (r_assign rfl) rfl ?_
            refine ol_r (r_assign rfl) rfl ?_
            refine ol_nil (to_k0 (fun _ _ h => h) (hK31 _ _ _ ?_))
            clear hK31
            refine wp_seq' fun K32 hK32 => ?_
            refine wp_reg ?_
            refine ol_r (r_move rfl) rfl ?_
            refine ol_r (r_move rfl) rfl ?_
            refine ol_r (r_move rfl) rfl ?_
            have qx := hzk.2.1 _ (List.mem_of_getElem? hx31)
            have qy := h1000 _ (List.mem_of_getElem? hx31)
            have qm := mul_bd (a := t) (b := x31) (A := 10000) (B := 1000) (by omega) (by omega) (by omega) (by omega)
            refine ol_r (r_mul rfl rfl (by omega)) rfl ?_
            first | refine ol_r (r_quo rfl rfl (by omega)) rfl ?_ | refine ol_r (r_tquo rfl rfl (by omega)) rfl ?_
            refine ol_bs1 38 rfl rfl rw22 rfl rfl rfl fun a38 => ?_
            refine ol_append1 (id := 7) (id2 := 38) rfl rfl rfl rfl rfl rw22 (by omega) rfl fun a39 c39 => ?_
            refine ol_r (r_assign rfl) rfl ?_
            refine ol_nil (to_k0 (fun _ _ h => h) (hK32 _ _ _ ?_))
            clear hK32
            refine wp_seq' fun K33 hK33 => ?_
            refine wp_regq (by kernel_rfl) (by kernel_rfl) ?_
            rw [encL_next hx31]
            have ql : (limL t ps).length = ps.length := limL_len _ _
            have qt : ((limL t ps).take (k + 1)).length = k + 1 := by rw [List.length_take]; omega
            refine ql_r (r_move rfl) rfl ?_
            refine ql_r (r_gtr rfl rfl) rfl ?_
            refine ql_r (r_move rfl) rfl ?_
            refine ql_split (d := 42) rfl (fun hs42 => ?_) (fun hs42 => ?_)
            · have phs42 := hs42; try simp only [decide_eq_true_eq, decide_eq_false_iff_not, Bool.not_eq_true', Bool.not_eq_false', Bool.not_true, Bool.not_false] at phs42
              refine ql_g rfl rfl hs42 ?_
              refine ql_r (r_move rfl) rfl ?_
              refine ql_g rfl rfl hs42 ?_
              refine ql_r (r_move rfl) rfl ?_
              refine ql_g rfl rfl hs42 ?_
              refine ql_ixo (id := 7) encI _ rfl rfl rfl rfl sl22 (by omega) (by omega) rfl fun x45 hx45 => ?_
              try simp only [Int.toNat_natCast] at hx45
              try simp only [Int.toNat_natCast] at hx45
              refine ql_g rfl rfl hs42 ?_
              refine ql_r (r_ldw rfl (fun w1 hb1 hs1 hB1 => show Loads _ _ _ _ (.int .i64 x45) from ld_own (id := 7) hs1 rfl rfl ty3 hx45)) rfl ?_
              refine ql_g rfl rfl hs42 ?_
              refine ql_r (r_move rfl) rfl ?_
              refine ql_g rfl rfl hs42 ?_
              refine ql_r (r_move rfl) rfl ?_
              refine ql_g rfl rfl hs42 ?_
              refine ql_r (r_sub rfl rfl (by omega)) rfl ?_
              refine ql_g rfl rfl hs42 ?_
              refine ql_ixo (id := 7) encI _ rfl rfl rfl rfl sl22 (by omega) (by omega) rfl fun x50 hx50 => ?_
              try simp only [Int.toNat_natCast] at hx50
              try simp only [Int.toNat_natCast] at hx50
              refine ql_g rfl rfl hs42 ?_
              refine ql_r (r_ldw rfl (fun w1 hb1 hs1 hB1 => show Loads _ _ _ _ (.int .i64 x50) from ld_own (id := 7) hs1 rfl rfl ty3 hx50)) rfl ?_
              refine ql_g rfl rfl hs42 ?_
              refine ql_r (r_leq rfl rfl) rfl ?_
              refine ql_r (r_pickT rfl hs42 rfl) rfl ?_
              refine ql_nil (to_k0 (fun _ _ h => h) (hK33 _ _ _ ?_))
              clear hK33
              first | refine wp_condD rfl (fun hc53 => ?_) (fun hc53 => ?_) | refine wp_condN rfl (fun hc53 => ?_) (fun hc53 => ?_) | refine wp_condNB rfl (fun hc53 => ?_) (fun hc53 => ?_) | refine wp_cond' rfl (fun hc53 => ?_) (fun hc53 => ?_)
              · refine wp_seq' fun K34 hK34 => ?_
                refine wp_reg ?_
                refine ol_r (r_assign rfl) rfl ?_
                refine ol_r (r_assign rfl) rfl ?_
                refine ol_nil (to_k0 (fun _ _ h => h) (hK34 _ _ _ ?_))
                clear hK34
                refine hQ.ret (rvs2 (rv_t rfl) (rv_t rfl)) (fun _ _ h => h) fun w hb hs hB hkd => ?_
                first
                  | (refine ⟨[], 9, none, 0, 0, LimR.r9 hc12, rfl, Fresh.nil hb⟩; done)
                  | (refine ⟨[], _, none, 0, 0, LimR.rz hc12 hc16, rfl, Fresh.nil hb⟩; done)
                  | (refine ⟨[], _, none, 0, 0, LimR.rx hc12 (Decidable.not_not.1 hc16) (all_max (by omega) (by simpa using hc25)), rfl, Fresh.nil hb⟩; done)
                  | (refine ⟨[], _, none, 0, 0, LimR.ra hc12 hE h1000 (by rw [← limL_len t ps]; exact AscK.bad (k := k) (by omega) (take_get (by rw [← hx50]; congr 1; omega)) (take_get hx45) (by simpa using hc53)), rfl, Fresh.nil hb⟩; done)
                  | (have hk' : k = ps.length := by omega
                     subst hk'
                     refine ⟨limL t ps, _, oa, _, oc, LimR.r0 hc12 hE h1000 hA, rfl, hb, ?_⟩
                     have := hs.ok 7 _ rfl
                     rw [List.take_of_length_le (by rw [limL_len]; exact Nat.le_refl _)] at this
                     exact this)
              · refine wp_skip' (to_k0 (fun _ _ h => h) (hK30 _ _ _ ?_))
                clear hK30
                refine wp_reg ?_
                refine ol_r (r_add rfl rfl (by omega)) rfl ?_
                refine ol_r (r_move rfl) rfl ?_
                refine ol_nil (to_k0 (fun _ _ h => h) (hK27 ((k + 1, _, _)) _ _ ?_ ?_ (sub_cons rfl (sub_cons rfl sub_nil)) (sub_cons rfl (sub_cons rfl (sub_cons rfl sub_nil))) (by exact (subH_row rfl (by first | (dsimp only; rfl; done) | (rfl; done) | (dsimp only; done)) subH_nil)) subH_nil))
                · try dsimp only
                  first
                    | exact ⟨by omega, hA.next (take_get (by rw [← hx50]; congr 1; omega)) (take_get hx45) (by simpa using hc53)⟩
                    | exact ⟨by omega, hA.one (by omega)⟩
                · try dsimp only
                  omega
            · have phs42 := hs42; try simp only [decide_eq_true_eq, decide_eq_false_iff_not, Bool.not_eq_true', Bool.not_eq_false', Bool.not_true, Bool.not_false] at phs42
              refine ql_s rfl rfl hs42 rfl ?_
              refine ql_s rfl rfl hs42 rfl ?_
              refine ql_s rfl rfl hs42 rfl ?_
              refine ql_s rfl rfl hs42 rfl ?_
              refine ql_s rfl rfl hs42 rfl ?_
              refine ql_s rfl rfl hs42 rfl ?_
              refine ql_s rfl rfl hs42 rfl ?_
              refine ql_s rfl rfl hs42 rfl ?_
              refine ql_s rfl rfl hs42 rfl ?_
              refine ql_s rfl rfl hs42 rfl ?_
              refine ql_r (r_pickF rfl hs42 rfl) rfl ?_
              refine ql_nil (to_k0 (fun _ _ h => h) (hK33 _ _ _ ?_))
              clear hK33
              refine wp_condF rfl ?_
              refine wp_skip' (to_k0 (fun _ _ h => h) (hK30 _ _ _ ?_))
              clear hK30
              refine wp_reg ?_
              refine ol_r (r_add rfl rfl (by omega)) rfl ?_
              refine ol_r (r_move rfl) rfl ?_
              refine ol_nil (to_k0 (fun _ _ h => h) (hK27 ((k + 1, _, _)) _ _ ?_ ?_ (sub_cons rfl (sub_cons rfl sub_nil)) (sub_cons rfl (sub_cons rfl (sub_cons rfl sub_nil))) (by exact (subH_row rfl (by first | (dsimp only; rfl; done) | (rfl; done) | (dsimp only; done)) subH_nil)) subH_nil))
              · try dsimp only
                first
                  | exact ⟨by omega, hA.next (take_get (by rw [← hx50]; congr 1; omega)) (take_get hx45) (by simpa using hc53)⟩
                  | exact ⟨by omega, hA.one (by omega)⟩
              · try dsimp only
                omega
          · refine wp_exit' (to_k0 (fun _ _ h => h) (hK25 _ _ _ ?_))
            clear hK25
            refine wp_seq' fun K35 hK35 => ?_
            refine wp_reg ?_
            refine ol_r (r_move rfl) rfl ?_
            refine ol_r (r_assign rfl) rfl ?_
            refine ol_r (r_assign rfl) rfl ?_
            refine ol_nil (to_k0 (fun _ _ h => h) (hK35 _ _ _ ?_))
            clear hK35
            refine hQ.ret (rvs2 (rv_t rfl) (rv_t rfl)) (fun _ _ h => h) fun w hb hs hB hkd => ?_
            first
              | (refine ⟨[], 9, none, 0, 0, LimR.r9 hc12, rfl, Fresh.nil hb⟩; done)
              | (refine ⟨[], _, none, 0, 0, LimR.rz hc12 hc16, rfl, Fresh.nil hb⟩; done)
              | (refine ⟨[], _, none, 0, 0, LimR.rx hc12 (Decidable.not_not.1 hc16) (all_max (by omega) (by simpa using hc25)), rfl, Fresh.nil hb⟩; done)
              | (refine ⟨[], _, none, 0, 0, LimR.ra hc12 hE h1000 (by rw [← limL_len t ps]; exact AscK.bad (k := k) (by omega) (take_get (by rw [← hx50]; congr 1; omega)) (take_get hx45) (by simpa using hc53)), rfl, Fresh.nil hb⟩; done)
              | (have hk' : k = ps.length := by omega
                 subst hk'
                 refine ⟨limL t ps, _, oa, _, oc, LimR.r0 hc12 hE h1000 hA, rfl, hb, ?_⟩
                 have := hs.ok 7 _ rfl
                 rw [List.take_of_length_le (by rw [limL_len]; exact Nat.le_refl _)] at this
                 exact this)
theorem ref_Limits (t : Int) (a : Option Addr) (n cap : Nat) (ps : List Int) (w : World) (hl : Rd encI w.heap.size w a n cap ps) :
    Calls Try.prog 56 #[.int .i64 t, .slice a n cap] w fun e w' => ∃ (out : List Int) (c : Int) (b : Option Addr) (m k : Nat), LimR t ps out c ∧ e = .returned (.tuple #[.slice b m k, .int .i64 c]) ∧ Fresh encI 3 w w' b m k out := by
  have hn := hl.len
  have hfit := hl.fit
  subst hn
  refine enterQ (N := 58) (C := fun _ => True) (H := []) (B := w.heap.size) (args := [_, _]) Try.func56 rfl rfl rfl (Nat.le_refl _) (Sat.nil _ _) fun Q hQ => ?_
  refine wp_seq' fun K1 hK1 => ?_
  refine wp_reg ?_
  refine ol_r (r_assign rfl) rfl ?_
  refine ol_r (r_assign rfl) rfl ?_
  refine ol_nil (to_k0 (fun _ _ h => h) (hK1 _ _ _ ?_))
  clear hK1
  refine wp_seq' fun K2 hK2 => ?_
  refine wp_seq' fun K3 hK3 => ?_
  refine wp_reg ?_
  refine ol_r (r_move rfl) rfl ?_
  refine ol_call rfl rfl cb62 rfl (fun w1 hb1 hs1 hB1 => Calls.mono (ref_outside _ _ _ _) ?_)
  rintro e w2 ⟨rfl, hb2⟩
  refine After.below rfl hb1 hs1 hB1 hb2 ?_
  clear hb2 hB1 hs1 hb1 w2 w1
  refine ol_nil (to_k0 (fun _ _ h => h) (hK3 _ _ _ ?_))
  clear hK3
  first | refine wp_condD rfl (fun hc13 => ?_) (fun hc13 => ?_) | refine wp_condN rfl (fun hc13 => ?_) (fun hc13 => ?_) | refine wp_condNB rfl (fun hc13 => ?_) (fun hc13 => ?_) | refine wp_cond' rfl (fun hc13 => ?_) (fun hc13 => ?_)
  · refine wp_seq' fun K4 hK4 => ?_
    refine wp_reg ?_
    refine ol_r (r_assign rfl) rfl ?_
    refine ol_r (r_assign rfl) rfl ?_
    refine ol_nil (to_k0 (fun _ _ h => h) (hK4 _ _ _ ?_))
    clear hK4
    refine hQ.ret (rvs2 (rv_t rfl) (rv_t rfl)) (fun _ _ h => h) fun w hb hs hB hkd => ?_
    first
      | (refine ⟨[], 9, none, 0, 0, LimR.r9 (by simpa using hc13), rfl, Fresh.nil hb⟩; done)
      | (refine ⟨[], _, none, 0, 0, LimR.rz (by simpa using hc13) hc17, rfl, Fresh.nil hb⟩; done)
      | (refine ⟨[], _, none, 0, 0, LimR.rx (by simpa using hc13) (Decidable.not_not.1 hc17) (all_one hx23 (by omega)), rfl, Fresh.nil hb⟩; done)
      | (refine ⟨[], _, none, 0, 0, LimR.ra hc13' hE h1000 (by rw [← limL_len t ps]; exact AscK.bad (k := k) (by omega) (take_get (by rw [← hx52]; congr 1; omega)) (take_get hx47) (by simpa using hc55)), rfl, Fresh.nil hb⟩; done)
      | (have hk' : k = ps.length := by omega
         subst hk'
         refine ⟨limL t ps, _, oa, _, oc, LimR.r0 hc13' hE h1000 hA, rfl, hb, ?_⟩
         have := hs.ok 7 _ rfl
         rw [List.take_of_length_le (by rw [limL_len]; exact Nat.le_refl _)] at this
         exact this)
  · refine wp_skip' (to_k0 (fun _ _ h => h) (hK2 _ _ _ ?_))
    clear hK2
    refine wp_seq' fun K5 hK5 => ?_
    refine wp_seq' fun K6 hK6 => ?_
    refine wp_reg ?_
    refine ol_r (r_move rfl) rfl ?_
    refine ol_call rfl rfl cb86 rfl (fun w1 hb1 hs1 hB1 => Calls.mono (ref_CheckZones _ _ _ ps _ (hl.at hb1 hB1)) ?_)
    rintro e w2 ⟨rfl, hb2⟩
    refine After.below rfl hb1 hs1 hB1 hb2 ?_
    clear hb2 hB1 hs1 hb1 w2 w1
    refine ol_r (r_assign rfl) rfl ?_
    refine ol_nil (to_k0 (fun _ _ h => h) (hK6 _ _ _ ?_))
    clear hK6
    refine wp_seq' fun K7 hK7 => ?_
    refine wp_reg ?_
    refine ol_r (r_move rfl) rfl ?_
    refine ol_r (r_neq rfl rfl) rfl ?_
    refine ol_nil (to_k0 (fun _ _ h => h) (hK7 _ _ _ ?_))
    clear hK7
    first | refine wp_condD rfl (fun hc17 => ?_) (fun hc17 => ?_) | refine wp_condN rfl (fun hc17 => ?_) (fun hc17 => ?_) | refine wp_condNB rfl (fun hc17 => ?_) (fun hc17 => ?_) | refine wp_cond' rfl (fun hc17 => ?_) (fun hc17 => ?_)
    · refine wp_seq' fun K8 hK8 => ?_
      refine wp_reg ?_
      refine ol_r (r_move rfl) rfl ?_
      refine ol_r (r_assign rfl) rfl ?_
      refine ol_r (r_assign rfl) rfl ?_
      refine ol_nil (to_k0 (fun _ _ h => h) (hK8 _ _ _ ?_))
      clear hK8
      refine hQ.ret (rvs2 (rv_t rfl) (rv_t rfl)) (fun _ _ h => h) fun w hb hs hB hkd => ?_
      first
        | (refine ⟨[], 9, none, 0, 0, LimR.r9 (by simpa using hc13), rfl, Fresh.nil hb⟩; done)
        | (refine ⟨[], _, none, 0, 0, LimR.rz (by simpa using hc13) hc17, rfl, Fresh.nil hb⟩; done)
        | (refine ⟨[], _, none, 0, 0, LimR.rx (by simpa using hc13) (Decidable.not_not.1 hc17) (all_one hx23 (by omega)), rfl, Fresh.nil hb⟩; done)
        | (refine ⟨[], _, none, 0, 0, LimR.ra hc13' hE h1000 (by rw [← limL_len t ps]; exact AscK.bad (k := k) (by omega) (take_get (by rw [← hx52]; congr 1; omega)) (take_get hx47) (by simpa using hc55)), rfl, Fresh.nil hb⟩; done)
        | (have hk' : k = ps.length := by omega
           subst hk'
           refine ⟨limL t ps, _, oa, _, oc, LimR.r0 hc13' hE h1000 hA, rfl, hb, ?_⟩
           have := hs.ok 7 _ rfl
           rw [List.take_of_length_le (by rw [limL_len]; exact Nat.le_refl _)] at this
           exact this)
    · refine wp_skip' (to_k0 (fun _ _ h => h) (hK5 _ _ _ ?_))
      clear hK5
      refine wp_seq' fun K9 hK9 => ?_
      refine wp_reg ?_
      refine ol_nilrow 7 3 1 ?_
      refine ol_r (r_assign rfl) rfl ?_
      refine ol_nil (to_k0 (fun _ _ h => h) (hK9 _ _ _ ?_))
      clear hK9
      refine wp_seq' fun K10 hK10 => ?_
      refine wp_seq' fun K11 hK11 => ?_
      refine wp_reg ?_
      refine ol_r (r_move rfl) rfl ?_
      refine ol_r (r_len rfl sl22) rfl ?_
      refine ol_r (r_move rfl) rfl ?_
      refine ol_nil (to_k0 (fun _ _ h => h) (hK11 _ _ _ ?_))
      clear hK11
      refine wp_block' ?_
      apply wp_loopM (σ := Nat) (fun s => s ≤ ps.length ∧ ∀ x ∈ ps.take s, x ≤ 1000) (fun s => [(21, .int .i64 s)]) [(0, _), (1, _), (7, _), (19, _), (20, _)] (fun s => []) [(7, _)] (fun s => ps.length - s) (0)
      · try dsimp only
        simp
      · exact (sub_cons rfl sub_nil)
      · exact (sub_cons rfl (sub_cons rfl (sub_cons rfl (sub_cons rfl (sub_cons rfl sub_nil)))))
      · exact subH_nil
      · exact (subH_same rfl subH_nil)
      · rintro k ⟨hk, hP⟩
        intro K12 hK12
        refine wp_seq' fun K13 hK13 => ?_
        refine wp_reg ?_
        refine ol_r (r_lss rfl rfl) rfl ?_
        refine ol_nil (to_k0 (fun _ _ h => h) (hK13 _ _ _ ?_))
        clear hK13
        refine wp_seq' fun K14 hK14 => ?_
        first | refine wp_condD rfl (fun hc22 => ?_) (fun hc22 => ?_) | refine wp_condN rfl (fun hc22 => ?_) (fun hc22 => ?_) | refine wp_condNB rfl (fun hc22 => ?_) (fun hc22 => ?_) | refine wp_cond' rfl (fun hc22 => ?_) (fun hc22 => ?_)
        · refine wp_skip' (to_k0 (fun _ _ h => h) (hK14 _ _ _ ?_))
          clear hK14
          refine wp_seq' fun K15 hK15 => ?_
          refine wp_block' ?_
          refine wp_seq' fun K16 hK16 => ?_
          refine wp_reg ?_
          refine ol_ixr hl rfl rfl sl22 (by omega) rfl fun x23 hx23 => ?_
          try simp only [Int.toNat_natCast] at hx23
          refine ol_r (r_ldw rfl (fun w1 hb1 hs1 hB1 => show Loads _ _ _ _ (.int .i64 x23) from Rd.loads hl ty3 hx23 hb1)) rfl ?_
          refine ol_r (r_assign rfl) rfl ?_
          refine ol_nil (to_k0 (fun _ _ h => h) (hK16 _ _ _ ?_))
          clear hK16
          refine wp_seq' fun K17 hK17 => ?_
          refine wp_reg ?_
          refine ol_r (r_move rfl) rfl ?_
          refine ol_r (r_gtr rfl rfl) rfl ?_
          refine ol_nil (to_k0 (fun _ _ h => h) (hK17 _ _ _ ?_))
          clear hK17
          first | refine wp_condD rfl (fun hc26 => ?_) (fun hc26 => ?_) | refine wp_condN rfl (fun hc26 => ?_) (fun hc26 => ?_) | refine wp_condNB rfl (fun hc26 => ?_) (fun hc26 => ?_) | refine wp_cond' rfl (fun hc26 => ?_) (fun hc26 => ?_)
          · refine wp_seq' fun K18 hK18 => ?_
            refine wp_reg ?_
            refine ol_r (r_assign rfl) rfl ?_
            refine ol_r (r_assign rfl) rfl ?_
            refine ol_nil (to_k0 (fun _ _ h => h) (hK18 _ _ _ ?_))
            clear hK18
            refine hQ.ret (rvs2 (rv_t rfl) (rv_t rfl)) (fun _ _ h => h) fun w hb hs hB hkd => ?_
            first
              | (refine ⟨[], 9, none, 0, 0, LimR.r9 (by simpa using hc13), rfl, Fresh.nil hb⟩; done)
              | (refine ⟨[], _, none, 0, 0, LimR.rz (by simpa using hc13) hc17, rfl, Fresh.nil hb⟩; done)
              | (refine ⟨[], _, none, 0, 0, LimR.rx (by simpa using hc13) (Decidable.not_not.1 hc17) (all_one hx23 (by omega)), rfl, Fresh.nil hb⟩; done)
              | (refine ⟨[], _, none, 0, 0, LimR.ra hc13' hE h1000 (by rw [← limL_len t ps]; exact AscK.bad (k := k) (by omega) (take_get (by rw [← hx52]; congr 1; omega)) (take_get hx47) (by simpa using hc55)), rfl, Fresh.nil hb⟩; done)
              | (have hk' : k = ps.length := by omega
                 subst hk'
                 refine ⟨limL t ps, _, oa, _, oc, LimR.r0 hc13' hE h1000 hA, rfl, hb, ?_⟩
                 have := hs.ok 7 _ rfl
                 rw [List.take_of_length_le (by rw [limL_len]; exact Nat.le_refl _)] at this
                 exact this)
          · refine wp_skip' (to_k0 (fun _ _ h => h) (hK15 _ _ _ ?_))
            clear hK15
            refine wp_reg ?_
            refine ol_r (r_add rfl rfl (by omega)) rfl ?_
            refine ol_r (r_move rfl) rfl ?_
            refine ol_nil (to_k0 (fun _ _ h => h) (hK12 (k + 1) _ _ ?_ ?_ (sub_cons rfl sub_nil) (sub_cons rfl (sub_cons rfl (sub_cons rfl (sub_cons rfl (sub_cons rfl sub_nil))))) (by exact subH_nil) (subH_same rfl subH_nil)))
            · try dsimp only
              refine ⟨by omega, fun x hx => ?_⟩
              rw [take_succ_get hx23] at hx
              rcases List.mem_append.1 hx with h | h
              · exact hP x h
              · simp at h; omega
            · try dsimp only
              omega
        · refine wp_exit' (to_k0 (fun _ _ h => h) (hK10 _ _ _ ?_))
          clear hK10
          refine wp_seq' fun K19 hK19 => ?_
          refine wp_seq' fun K20 hK20 => ?_
          refine wp_reg ?_
          have hE : zonesC ps = 0 := Decidable.not_not.1 hc17
          have hc13' : inB t 1 10000 = true := by simpa using hc13
          have hzk := zonesC_ok hE
          have ht := inB_iff.1 hc13'
          rw [List.take_of_length_le (by omega)] at hP
          have h1000 : ∀ x ∈ ps, x ≤ 1000 := hP
          clear hP
          refine ol_r (r_move rfl) rfl ?_
          refine ol_r (r_len rfl sl22) rfl ?_
          refine ol_r (r_move rfl) rfl ?_
          refine ol_nil (to_k0 (fun _ _ h => h) (hK20 _ _ _ ?_))
          clear hK20
          refine wp_block' ?_
          apply wp_loopM (σ := Nat × Option Addr × Nat) (fun s => s.1 ≤ ps.length ∧ AscK (limL t ps) s.1) (fun s => [(30, .int .i64 s.1), (7, .slice s.2.1 s.1 s.2.2)]) [(0, _), (28, _), (29, _)] (fun s => [(7, .row s.2.1 s.1 s.2.2 (encI.enc ((limL t ps).take s.1)) 3 1)]) [] (fun s => ps.length - s.1) ((0, none, 0))
          · try dsimp only
            exact ⟨Nat.zero_le _, AscK.zero _⟩
          · exact (sub_cons rfl (sub_cons rfl sub_nil))
          · exact (sub_cons rfl (sub_cons rfl (sub_cons rfl sub_nil)))
          · exact (subH_row rfl (by first | (dsimp only; rfl; done) | (rfl; done) | (dsimp only; done)) subH_nil)
          · exact subH_nil
          · rintro ⟨k, oa, oc⟩ ⟨hk, hA⟩
            dsimp only at hk hA ⊢
            intro K21 hK21
            refine wp_seq' fun K22 hK22 => ?_
            refine wp_reg ?_
            refine ol_r (r_lss rfl rfl) rfl ?_
            refine ol_nil (to_k0 (fun _ _ h => h) (hK22 _ _ _ ?_))
            clear hK22
            refine wp_seq' fun K23 hK23 => ?_
            first | refine wp_condD rfl (fun hc31 => ?_) (fun hc31 => ?_) | refine wp_condN rfl (fun hc31 => ?_) (fun hc31 => ?_) | refine wp_condNB rfl (fun hc31 => ?_) (fun hc31 => ?_) | refine wp_cond' rfl (fun hc31 => ?_) (fun hc31 => ?_)
            · refine wp_skip' (to_k0 (fun _ _ h => h) (hK23 _ _ _ ?_))
              clear hK23
              refine wp_seq' fun K24 hK24 => ?_
              refine wp_block' ?_
              refine wp_seq' fun K25 hK25 => ?_
              refine wp_reg ?_
              refine ol_r (r_move rfl) rfl ?_
              refine ol_ixr hl rfl rfl sl22 (by omega) rfl fun x33 hx33 => ?_
              try simp only [Int.toNat_natCast] at hx33
              refine ol_r (r_ldw rfl (fun w1 hb1 hs1 hB1 => show Loads _ _ _ _ (.int .i64 x33) from Rd.loads hl ty3 hx33 hb1)) rfl ?_
              refine ol_r (r_assign rfl) rfl ?_
              refine ol_r (r_assign rfl) rfl ?_
              refine ol_nil (to_k0 (fun _ _ h => h) (hK25 _ _ _ ?_))
              clear hK25
              refine wp_seq' fun K26 hK26 => ?_
              refine wp_reg ?_
              refine ol_r (r_move rfl) rfl ?_
              refine ol_r (r_move rfl) rfl ?_
              refine ol_r (r_move rfl) rfl ?_
              have qx := hzk.2.1 _ (List.mem_of_getElem? hx33)
              have qy := h1000 _ (List.mem_of_getElem? hx33)
              have qm := mul_bd (a := t) (b := x33) (A := 10000) (B := 1000) (by omega) (by omega) (by omega) (by omega)
              refine ol_r (r_mul rfl rfl (by omega)) rfl ?_
              first | refine ol_r (r_quo rfl rfl (by omega)) rfl ?_ | refine ol_r (r_tquo rfl rfl (by omega)) rfl ?_
              refine ol_bs1 40 rfl rfl rw22 rfl rfl rfl fun a40 => ?_
              refine ol_append1 (id := 7) (id2 := 40) rfl rfl rfl rfl rfl rw22 (by omega) rfl fun a41 c41 => ?_
              refine ol_r (r_assign rfl) rfl ?_
              refine ol_nil (to_k0 (fun _ _ h => h) (hK26 _ _ _ ?_))
              clear hK26
              refine wp_seq' fun K27 hK27 => ?_
              refine wp_regq (by kernel_rfl) (by kernel_rfl) ?_
              rw [encL_next hx33]
              have ql : (limL t ps).length = ps.length := limL_len _ _
              have qt : ((limL t ps).take (k + 1)).length = k + 1 := by rw [List.length_take]; omega
              refine ql_r (r_move rfl) rfl ?_
              refine ql_r (r_gtr rfl rfl) rfl ?_
              refine ql_r (r_move rfl) rfl ?_
              refine ql_split (d := 44) rfl (fun hs44 => ?_) (fun hs44 => ?_)
              · have phs44 := hs44; try simp only [decide_eq_true_eq, decide_eq_false_iff_not, Bool.not_eq_true', Bool.not_eq_false', Bool.not_true, Bool.not_false] at phs44
                refine ql_g rfl rfl hs44 ?_
                refine ql_r (r_move rfl) rfl ?_
                refine ql_g rfl rfl hs44 ?_
                refine ql_r (r_move rfl) rfl ?_
                refine ql_g rfl rfl hs44 ?_
                refine ql_ixo (id := 7) encI _ rfl rfl rfl rfl sl22 (by omega) (by omega) rfl fun x47 hx47 => ?_
                try simp only [Int.toNat_natCast] at hx47
                try simp only [Int.toNat_natCast] at hx47
                refine ql_g rfl rfl hs44 ?_
                refine ql_r (r_ldw rfl (fun w1 hb1 hs1 hB1 => show Loads _ _ _ _ (.int .i64 x47) from ld_own (id := 7) hs1 rfl rfl ty3 hx47)) rfl ?_
                refine ql_g rfl rfl hs44 ?_
                refine ql_r (r_move rfl) rfl ?_
                refine ql_g rfl rfl hs44 ?_
                refine ql_r (r_move rfl) rfl ?_
                refine ql_g rfl rfl hs44 ?_
                refine ql_r (r_sub rfl rfl (by omega)) rfl ?_
                refine ql_g rfl rfl hs44 ?_
                refine ql_ixo (id := 7) encI _ rfl rfl rfl rfl sl22 (by omega) (by omega) rfl fun x52 hx52 => ?_
                try simp only [Int.toNat_natCast] at hx52
                try simp only [Int.toNat_natCast] at hx52
                refine ql_g rfl rfl hs44 ?_
                refine ql_r (r_ldw rfl (fun w1 hb1 hs1 hB1 => show Loads _ _ _ _ (.int .i64 x52) from ld_own (id := 7) hs1 rfl rfl ty3 hx52)) rfl ?_
                refine ql_g rfl rfl hs44 ?_
                refine ql_r (r_leq rfl rfl) rfl ?_
                refine ql_r (r_pickT rfl hs44 rfl) rfl ?_
                refine ql_nil (to_k0 (fun _ _ h => h) (hK27 _ _ _ ?_))
                clear hK27
                first | refine wp_condD rfl (fun hc55 => ?_) (fun hc55 => ?_) | refine wp_condN rfl (fun hc55 => ?_) (fun hc55 => ?_) | refine wp_condNB rfl (fun hc55 => ?_) (fun hc55 => ?_) | refine wp_cond' rfl (fun hc55 => ?_) (fun hc55 => ?_)
                · refine wp_seq' fun K28 hK28 => ?_
                  refine wp_reg ?_
                  refine ol_r (r_assign rfl) rfl ?_
                  refine ol_r (r_assign rfl) rfl ?_
                  refine ol_nil (to_k0 (fun _ _ h => h) (hK28 _ _ _ ?_))
                  clear hK28
                  refine hQ.ret (rvs2 (rv_t rfl) (rv_t rfl)) (fun _ _ h => h) fun w hb hs hB hkd => ?_
                  first
                    | (refine ⟨[], 9, none, 0, 0, LimR.r9 (by simpa using hc13), rfl, Fresh.nil hb⟩; done)
                    | (refine ⟨[], _, none, 0, 0, LimR.rz (by simpa using hc13) hc17, rfl, Fresh.nil hb⟩; done)
                    | (refine ⟨[], _, none, 0, 0, LimR.rx (by simpa using hc13) (Decidable.not_not.1 hc17) (all_one hx23 (by omega)), rfl, Fresh.nil hb⟩; done)
                    | (refine ⟨[], _, none, 0, 0, LimR.ra hc13' hE h1000 (by rw [← limL_len t ps]; exact AscK.bad (k := k) (by omega) (take_get (by rw [← hx52]; congr 1; omega)) (take_get hx47) (by simpa using hc55)), rfl, Fresh.nil hb⟩; done)
                    | (have hk' : k = ps.length := by omega
                       subst hk'
                       refine ⟨limL t ps, _, oa, _, oc, LimR.r0 hc13' hE h1000 hA, rfl, hb, ?_⟩
                       have := hs.ok 7 _ rfl
                       rw [List.take_of_length_le (by rw [limL_len]; exact Nat.le_refl _)] at this
                       exact this)
                · refine wp_skip' (to_k0 (fun _ _ h => h) (hK24 _ _ _ ?_))
                  clear hK24
                  refine wp_reg ?_
                  refine ol_r (r_add rfl rfl (by omega)) rfl ?_
                  refine ol_r (r_move rfl) rfl ?_
                  refine ol_nil (to_k0 (fun _ _ h => h) (hK21 ((k + 1, _, _)) _ _ ?_ ?_ (sub_cons rfl (sub_cons rfl sub_nil)) (sub_cons rfl (sub_cons rfl (sub_cons rfl sub_nil))) (by exact (subH_row rfl (by first | (dsimp only; rfl; done) | (rfl; done) | (dsimp only; done)) subH_nil)) subH_nil))
                  · try dsimp only
                    first
                      | exact ⟨by omega, hA.next (take_get (by rw [← hx52]; congr 1; omega)) (take_get hx47) (by simpa using hc55)⟩
                      | exact ⟨by omega, hA.one (by omega)⟩
                  · try dsimp only
                    omega
              · have phs44 := hs44; try simp only [decide_eq_true_eq, decide_eq_false_iff_not, Bool.not_eq_true', Bool.not_eq_false', Bool.not_true, Bool.not_false] at phs44
                refine ql_s rfl rfl hs44 rfl ?_
                refine ql_s rfl rfl hs44 rfl ?_
                refine ql_s rfl rfl hs44 rfl ?_
                refine ql_s rfl rfl hs44 rfl ?_
                refine ql_s rfl rfl hs44 rfl ?_
                refine ql_s rfl rfl hs44 rfl ?_
                refine ql_s rfl rfl hs44 rfl ?_
                refine ql_s rfl rfl hs44 rfl ?_
                refine ql_s rfl rfl hs44 rfl ?_
                refine ql_s rfl rfl hs44 rfl ?_
                refine ql_r (r_pickF rfl hs44 rfl) rfl ?_
                refine ql_nil (to_k0 (fun _ _ h => h) (hK27 _ _ _ ?_))
                clear hK27
                refine wp_condF rfl ?_
                refine wp_skip' (to_k0 (fun _ _ h => h) (hK24 _ _ _ ?_))
                clear hK24
                refine wp_reg ?_
                refine ol_r (r_add rfl rfl (by omega)) rfl ?_
                refine ol_r (r_move rfl) rfl ?_
                refine ol_nil (to_k0 (fun _ _ h => h) (hK21 ((k + 1, _, _)) _ _ ?_ ?_ (sub_cons rfl (sub_cons rfl sub_nil)) (sub_cons rfl (sub_cons rfl (sub_cons rfl sub_nil))) (by exact (subH_row rfl (by first | (dsimp only; rfl; done) | (rfl; done) | (dsimp only; done)) subH_nil)) subH_nil))
                · try dsimp only
                  first
                    | exact ⟨by omega, hA.next (take_get (by rw [← hx52]; congr 1; omega)) (take_get hx47) (by simpa using hc55)⟩
                    | exact ⟨by omega, hA.one (by omega)⟩
                · try dsimp only
                  omega
            · refine wp_exit' (to_k0 (fun _ _ h => h) (hK19 _ _ _ ?_))
              clear hK19
              refine wp_seq' fun K29 hK29 => ?_
              refine wp_reg ?_
              refine ol_r (r_move rfl) rfl ?_
              refine ol_r (r_assign rfl) rfl ?_
              refine ol_r (r_assign rfl) rfl ?_
              refine ol_nil (to_k0 (fun _ _ h => h) (hK29 _ _ _ ?_))
              clear hK29
              refine hQ.ret (rvs2 (rv_t rfl) (rv_t rfl)) (fun _ _ h => h) fun w hb hs hB hkd => ?_
              first
                | (refine ⟨[], 9, none, 0, 0, LimR.r9 (by simpa using hc13), rfl, Fresh.nil hb⟩; done)
                | (refine ⟨[], _, none, 0, 0, LimR.rz (by simpa using hc13) hc17, rfl, Fresh.nil hb⟩; done)
                | (refine ⟨[], _, none, 0, 0, LimR.rx (by simpa using hc13) (Decidable.not_not.1 hc17) (all_one hx23 (by omega)), rfl, Fresh.nil hb⟩; done)
                | (refine ⟨[], _, none, 0, 0, LimR.ra hc13' hE h1000 (by rw [← limL_len t ps]; exact AscK.bad (k := k) (by omega) (take_get (by rw [← hx52]; congr 1; omega)) (take_get hx47) (by simpa using hc55)), rfl, Fresh.nil hb⟩; done)
                | (have hk' : k = ps.length := by omega
                   subst hk'
                   refine ⟨limL t ps, _, oa, _, oc, LimR.r0 hc13' hE h1000 hA, rfl, hb, ?_⟩
                   have := hs.ok 7 _ rfl
                   rw [List.take_of_length_le (by rw [limL_len]; exact Nat.le_refl _)] at this
                   exact this)
theorem HardR_bd {xs : List Int} {r c : Int} {ok : Bool} (h : HardR xs (smK xs 30 xs.length) r ok c) : 0 ≤ r ∧ r ≤ 10000 := by
  unfold HardR at h
  by_cases h1 : streamR xs ≠ 0
  · rw [if_pos h1] at h; omega
  · rw [if_neg h1] at h
    by_cases h2 : xs.all (fun x => decide (x ≤ 10000)) = false
    · rw [if_pos h2] at h; omega
    · rw [if_neg h2] at h
      by_cases h3 : sI kV (smK xs 30 xs.length) = 0
      · rw [if_pos h3] at h; omega
      · rw [if_neg h3] at h
        have hall : ∀ x ∈ xs, x ≤ 10000 := fun x hx => by
          have : xs.all (fun x => decide (x ≤ 10000)) = true := by simpa using h2
          simpa using List.all_eq_true.1 this x hx
        have hv := smK_bd hall 30 (by omega)
        have h4 := cV_kV (smK xs 30 xs.length) (fun v hv' => (hv v hv').2)
        have h5 := sI_bd kV 1 (by omega) (smK xs 30 xs.length) (fun v _ => kV_bd v)
        obtain ⟨⟨r0, r1, r2⟩, _⟩ := h
        have h6 : sI cV (smK xs 30 xs.length) / sI kV (smK xs 30 xs.length) ≤ 1000000000000 := Int.ediv_le_of_le_mul (by omega) (by omega)
        refine ⟨r0, ?_⟩
        apply Decidable.byContradiction
        intro hlt
        have := cube_mono (a := 10001) (b := r) (by omega) (by omega)
        omega
theorem HardR_err {xs ys : List Int} {r c : Int} {ok : Bool} (h : HardR xs ys r ok c) (hc : c ≠ 0) : r = 0 ∧ ok = false := by
  unfold HardR at h
  by_cases h1 : streamR xs ≠ 0
  · rw [if_pos h1] at h; exact ⟨h.1, h.2.1⟩
  · rw [if_neg h1] at h
    by_cases h2 : xs.all (fun x => decide (x ≤ 10000)) = false
    · rw [if_pos h2] at h; exact ⟨h.1, h.2.1⟩
    · rw [if_neg h2] at h
      by_cases h3 : sI kV ys = 0
      · rw [if_pos h3] at h; exact ⟨h.1, h.2.1⟩
      · rw [if_neg h3] at h; exact absurd h.2.2 hc
theorem HardR_ok {xs ys : List Int} {r c : Int} {ok : Bool} (h : HardR xs ys r ok c) (hc : ¬c ≠ 0) : streamR xs = 0 := by
  unfold HardR at h
  by_cases h1 : streamR xs ≠ 0
  · rw [if_pos h1] at h; exact absurd (h.2.2 ▸ h1) hc
  · omega
/-- Power: the load, whether there is one, and an error. -/
def PowR (xs : List Int) (t r : Int) (ok : Bool) (e : Int) : Prop := ∃ (h c : Int) (o : Bool), HardR xs (smK xs 30 xs.length) h o c ∧
  (if c ≠ 0 then r = 0 ∧ ok = false ∧ e = c else if inB t 1 10000 = false then r = 0 ∧ ok = false ∧ e = 9 else if o = false then r = 0 ∧ ok = false ∧ e = 0
   else r = h * h * kS xs xs.length * 100 / (3600 * t * t) ∧ ok = true ∧ e = 0)
theorem PowR.unique {xs : List Int} {t r r' e e' : Int} {ok ok' : Bool} (h : PowR xs t r ok e) (h' : PowR xs t r' ok' e') : r = r' ∧ ok = ok' ∧ e = e' := by
  obtain ⟨g, c, o, h1, h2⟩ := h
  obtain ⟨g', c', o', h1', h2'⟩ := h'
  obtain ⟨rfl, rfl, rfl⟩ := h1.unique h1'
  by_cases q1 : c ≠ 0
  · rw [if_pos q1] at h2 h2'; exact ⟨by rw [h2.1, h2'.1], by rw [h2.2.1, h2'.2.1], by rw [h2.2.2, h2'.2.2]⟩
  · rw [if_neg q1] at h2 h2'
    by_cases q2 : inB t 1 10000 = false
    · rw [if_pos q2] at h2 h2'; exact ⟨by rw [h2.1, h2'.1], by rw [h2.2.1, h2'.2.1], by rw [h2.2.2, h2'.2.2]⟩
    · rw [if_neg q2] at h2 h2'
      by_cases q3 : o = false
      · rw [if_pos q3] at h2 h2'; exact ⟨by rw [h2.1, h2'.1], by rw [h2.2.1, h2'.2.1], by rw [h2.2.2, h2'.2.2]⟩
      · rw [if_neg q3] at h2 h2'; exact ⟨by rw [h2.1, h2'.1], by rw [h2.2.1, h2'.2.1], by rw [h2.2.2, h2'.2.2]⟩
theorem PowR.re {xs : List Int} {t h c : Int} {o : Bool} (hR : HardR xs (smK xs 30 xs.length) h o c) (hc : c ≠ 0) : PowR xs t 0 false c := ⟨h, c, o, hR, by rw [if_pos hc]; exact ⟨rfl, rfl, rfl⟩⟩
theorem PowR.r9 {xs : List Int} {t h c : Int} {o : Bool} (hR : HardR xs (smK xs 30 xs.length) h o c) (hc : ¬c ≠ 0) (ht : inB t 1 10000 = false) : PowR xs t 0 false 9 := ⟨h, c, o, hR, by rw [if_neg hc, if_pos ht]; exact ⟨rfl, rfl, rfl⟩⟩
theorem PowR.rn {xs : List Int} {t h c : Int} {o : Bool} (hR : HardR xs (smK xs 30 xs.length) h o c) (hc : ¬c ≠ 0) (ht : inB t 1 10000 = true) (ho : o = false) : PowR xs t 0 false 0 := ⟨h, c, o, hR, by rw [if_neg hc, if_neg (by rw [ht]; simp), if_pos ho]; exact ⟨rfl, rfl, rfl⟩⟩
theorem PowR.r0 {xs : List Int} {t h c : Int} {o : Bool} (hR : HardR xs (smK xs 30 xs.length) h o c) (hc : ¬c ≠ 0) (ht : inB t 1 10000 = true) (ho : o = true) : PowR xs t (h * h * kS xs xs.length * 100 / (3600 * t * t)) true 0 :=
  ⟨h, c, o, hR, by rw [if_neg hc, if_neg (by rw [ht]; simp), if_neg (by rw [ho]; simp)]; exact ⟨rfl, rfl, rfl⟩⟩
theorem load_Power (a : Option Addr) (n cap : Nat) (xs : List Int) (t : Int) (w : World) (hl : Rd encI w.heap.size w a n cap xs) :
    Calls Try.prog 57 #[.slice a n cap, .int .i64 t] w fun e w' => ∃ (r c : Int) (ok : Bool), PowR xs t r ok c ∧ e = .returned (.tuple #[.int .i64 r, .bool ok, .int .i64 c]) ∧ Below w.heap.size w w' := by
  have hn := hl.len
  have hfit := hl.fit
  subst hn
  refine enterQ (N := 52) (C := fun _ => True) (H := []) (B := w.heap.size) (args := [_, _]) Try.func57 rfl rfl rfl (Nat.le_refl _) (Sat.nil _ _) fun Q hQ => ?_
  refine wp_seq' fun K1 hK1 => ?_
  refine wp_reg ?_
  refine ol_r (r_assign rfl) rfl ?_
  refine ol_r (r_assign rfl) rfl ?_
  refine ol_r (r_assign rfl) rfl ?_
  refine ol_nil (to_k0 (fun _ _ h => h) (hK1 _ _ _ ?_))
  clear hK1
  refine wp_seq' fun K2 hK2 => ?_
  refine wp_reg ?_
  refine ol_r (r_move rfl) rfl ?_
  refine ol_call rfl rfl cb87 rfl (fun w1 hb1 hs1 hB1 => ?_)
  refine Calls.mono (effort_Hard _ _ _ xs _ (hl.at hb1 hB1)) ?_
  rintro e w2 ⟨r, c, ok, hR, rfl, hb2⟩
  refine After.below rfl hb1 hs1 hB1 hb2 ?_
  clear hb2 hB1 hs1 hb1 w2 w1
  refine ol_r (r_move rfl) rfl ?_
  refine ol_r (r_extract rfl rfl) rfl ?_
  refine ol_r (r_extract rfl rfl) rfl ?_
  refine ol_r (r_extract rfl rfl) rfl ?_
  refine ol_r (r_assign rfl) rfl ?_
  refine ol_r (r_assign rfl) rfl ?_
  refine ol_r (r_assign rfl) rfl ?_
  refine ol_nil (to_k0 (fun _ _ h => h) (hK2 _ _ _ ?_))
  clear hK2
  refine wp_seq' fun K3 hK3 => ?_
  refine wp_block' ?_
  refine wp_seq' fun K4 hK4 => ?_
  refine wp_reg ?_
  refine ol_r (r_move rfl) rfl ?_
  refine ol_r (r_neq rfl rfl) rfl ?_
  refine ol_r (r_assign rfl) rfl ?_
  refine ol_nil (to_k0 (fun _ _ h => h) (hK4 _ _ _ ?_))
  clear hK4
  first | refine wp_condD rfl (fun hc19 => ?_) (fun hc19 => ?_) | refine wp_condN rfl (fun hc19 => ?_) (fun hc19 => ?_) | refine wp_condNB rfl (fun hc19 => ?_) (fun hc19 => ?_) | refine wp_cond' rfl (fun hc19 => ?_) (fun hc19 => ?_)
  · refine wp_seq' fun K5 hK5 => ?_
    refine wp_reg ?_
    refine ol_r (r_move rfl) rfl ?_
    refine ol_r (r_assign rfl) rfl ?_
    refine ol_r (r_assign rfl) rfl ?_
    refine ol_r (r_assign rfl) rfl ?_
    refine ol_nil (to_k0 (fun _ _ h => h) (hK5 _ _ _ ?_))
    clear hK5
    refine hQ.ret (rvs3 (rv_t rfl) (rv_t rfl) (rv_t rfl)) (fun _ _ h => h) fun w hb hs hB hkd => ?_
    first
      | (exact ⟨_, _, _, PowR.re hR hc19, rfl, hb⟩; done)
      | (exact ⟨_, _, _, PowR.r9 hR hc19 (by simpa using hc23), rfl, hb⟩; done)
      | (exact ⟨_, _, _, PowR.rn hR hc19 (by simpa using hc23) (by simpa using hc27), rfl, hb⟩; done)
      | (have hk' : k = xs.length := by omega
         subst hk'
         refine ⟨_, 0, true, PowR.r0 hR hc19 (by simpa using hc23) (by simpa using hc27), ?_, hb⟩
         rw [← hu])
  · refine wp_seq' fun K6 hK6 => ?_
    refine wp_reg ?_
    refine ol_r (r_move rfl) rfl ?_
    refine ol_call rfl rfl cb67 rfl (fun w1 hb1 hs1 hB1 => Calls.mono (load_in _ _ _ _) ?_)
    rintro e w2 ⟨rfl, hb2⟩
    refine After.below rfl hb1 hs1 hB1 hb2 ?_
    clear hb2 hB1 hs1 hb1 w2 w1
    refine ol_r (r_not rfl) rfl ?_
    refine ol_r (r_assign rfl) rfl ?_
    refine ol_nil (to_k0 (fun _ _ h => h) (hK6 _ _ _ ?_))
    clear hK6
    first | refine wp_condD rfl (fun hc23 => ?_) (fun hc23 => ?_) | refine wp_condN rfl (fun hc23 => ?_) (fun hc23 => ?_) | refine wp_condNB rfl (fun hc23 => ?_) (fun hc23 => ?_) | refine wp_cond' rfl (fun hc23 => ?_) (fun hc23 => ?_)
    · refine wp_seq' fun K7 hK7 => ?_
      refine wp_reg ?_
      refine ol_r (r_assign rfl) rfl ?_
      refine ol_r (r_assign rfl) rfl ?_
      refine ol_r (r_assign rfl) rfl ?_
      refine ol_nil (to_k0 (fun _ _ h => h) (hK7 _ _ _ ?_))
      clear hK7
      refine hQ.ret (rvs3 (rv_t rfl) (rv_t rfl) (rv_t rfl)) (fun _ _ h => h) fun w hb hs hB hkd => ?_
      first
        | (exact ⟨_, _, _, PowR.re hR hc19, rfl, hb⟩; done)
        | (exact ⟨_, _, _, PowR.r9 hR hc19 (by simpa using hc23), rfl, hb⟩; done)
        | (exact ⟨_, _, _, PowR.rn hR hc19 (by simpa using hc23) (by simpa using hc27), rfl, hb⟩; done)
        | (have hk' : k = xs.length := by omega
           subst hk'
           refine ⟨_, 0, true, PowR.r0 hR hc19 (by simpa using hc23) (by simpa using hc27), ?_, hb⟩
           rw [← hu])
    · refine wp_seq' fun K8 hK8 => ?_
      refine wp_reg ?_
      refine ol_r (r_move rfl) rfl ?_
      refine ol_r (r_not rfl) rfl ?_
      refine ol_r (r_assign rfl) rfl ?_
      refine ol_nil (to_k0 (fun _ _ h => h) (hK8 _ _ _ ?_))
      clear hK8
      first | refine wp_condD rfl (fun hc27 => ?_) (fun hc27 => ?_) | refine wp_condN rfl (fun hc27 => ?_) (fun hc27 => ?_) | refine wp_condNB rfl (fun hc27 => ?_) (fun hc27 => ?_) | refine wp_cond' rfl (fun hc27 => ?_) (fun hc27 => ?_)
      · refine wp_seq' fun K9 hK9 => ?_
        refine wp_reg ?_
        refine ol_r (r_assign rfl) rfl ?_
        refine ol_r (r_assign rfl) rfl ?_
        refine ol_r (r_assign rfl) rfl ?_
        refine ol_nil (to_k0 (fun _ _ h => h) (hK9 _ _ _ ?_))
        clear hK9
        refine hQ.ret (rvs3 (rv_t rfl) (rv_t rfl) (rv_t rfl)) (fun _ _ h => h) fun w hb hs hB hkd => ?_
        first
          | (exact ⟨_, _, _, PowR.re hR hc19, rfl, hb⟩; done)
          | (exact ⟨_, _, _, PowR.r9 hR hc19 (by simpa using hc23), rfl, hb⟩; done)
          | (exact ⟨_, _, _, PowR.rn hR hc19 (by simpa using hc23) (by simpa using hc27), rfl, hb⟩; done)
          | (have hk' : k = xs.length := by omega
             subst hk'
             refine ⟨_, 0, true, PowR.r0 hR hc19 (by simpa using hc23) (by simpa using hc27), ?_, hb⟩
             rw [← hu])
      · refine wp_skip' (to_k0 (fun _ _ h => h) (hK3 _ _ _ ?_))
        clear hK3
        refine wp_seq' fun K10 hK10 => ?_
        refine wp_reg ?_
        refine ol_r (r_assign rfl) rfl ?_
        refine ol_nil (to_k0 (fun _ _ h => h) (hK10 _ _ _ ?_))
        clear hK10
        refine wp_seq' fun K11 hK11 => ?_
        refine wp_seq' fun K12 hK12 => ?_
        refine wp_reg ?_
        refine ol_r (r_move rfl) rfl ?_
        refine ol_r (r_len rfl sl22) rfl ?_
        refine ol_r (r_move rfl) rfl ?_
        refine ol_nil (to_k0 (fun _ _ h => h) (hK12 _ _ _ ?_))
        clear hK12
        refine wp_block' ?_
        apply wp_loopM (σ := Nat × Int) (fun s => s.1 ≤ xs.length ∧ s.2 = kS xs s.1) (fun s => [(32, .int .i64 s.1), (10, .int .i64 s.2)]) [(1, _), (4, _), (5, _), (6, _), (7, _), (30, _), (31, _)] (fun s => []) [] (fun s => xs.length - s.1) ((0, 0))
        · try dsimp only
          exact ⟨Nat.zero_le _, (kS_zero _).symm⟩
        · exact (sub_cons rfl (sub_cons rfl sub_nil))
        · exact (sub_cons rfl (sub_cons rfl (sub_cons rfl (sub_cons rfl (sub_cons rfl (sub_cons rfl (sub_cons rfl sub_nil)))))))
        · exact subH_nil
        · exact subH_nil
        · rintro ⟨k, u⟩ ⟨hk, hu⟩
          dsimp only at hk hu ⊢
          intro K13 hK13
          refine wp_seq' fun K14 hK14 => ?_
          refine wp_reg ?_
          refine ol_r (r_lss rfl rfl) rfl ?_
          refine ol_nil (to_k0 (fun _ _ h => h) (hK14 _ _ _ ?_))
          clear hK14
          refine wp_seq' fun K15 hK15 => ?_
          first | refine wp_condD rfl (fun hc33 => ?_) (fun hc33 => ?_) | refine wp_condN rfl (fun hc33 => ?_) (fun hc33 => ?_) | refine wp_condNB rfl (fun hc33 => ?_) (fun hc33 => ?_) | refine wp_cond' rfl (fun hc33 => ?_) (fun hc33 => ?_)
          · refine wp_skip' (to_k0 (fun _ _ h => h) (hK15 _ _ _ ?_))
            clear hK15
            refine wp_seq' fun K16 hK16 => ?_
            refine wp_block' ?_
            refine wp_seq' fun K17 hK17 => ?_
            refine wp_reg ?_
            refine ol_ixr hl rfl rfl sl22 (by omega) rfl fun x34 hx34 => ?_
            try simp only [Int.toNat_natCast] at hx34
            have hok := streamR_ok (HardR_ok hR hc19)
            have qk := kS_bd xs k
            refine ol_r (r_ldw rfl (fun w1 hb1 hs1 hB1 => show Loads _ _ _ _ (.int .i64 x34) from Rd.loads hl ty3 hx34 hb1)) rfl ?_
            refine ol_r (r_assign rfl) rfl ?_
            refine ol_nil (to_k0 (fun _ _ h => h) (hK17 _ _ _ ?_))
            clear hK17
            refine wp_seq' fun K18 hK18 => ?_
            refine wp_reg ?_
            refine ol_r (r_move rfl) rfl ?_
            refine ol_r (r_geq rfl rfl) rfl ?_
            refine ol_nil (to_k0 (fun _ _ h => h) (hK18 _ _ _ ?_))
            clear hK18
            first | refine wp_condD rfl (fun hc37 => ?_) (fun hc37 => ?_) | refine wp_condN rfl (fun hc37 => ?_) (fun hc37 => ?_) | refine wp_condNB rfl (fun hc37 => ?_) (fun hc37 => ?_) | refine wp_cond' rfl (fun hc37 => ?_) (fun hc37 => ?_)
            · refine wp_reg ?_
              refine ol_r (r_move rfl) rfl ?_
              refine ol_r (r_add rfl rfl (by omega)) rfl ?_
              refine ol_r (r_assign rfl) rfl ?_
              refine ol_nil (to_k0 (fun _ _ h => h) (hK16 _ _ _ ?_))
              clear hK16
              refine wp_reg ?_
              refine ol_r (r_add rfl rfl (by omega)) rfl ?_
              refine ol_r (r_move rfl) rfl ?_
              refine ol_nil (to_k0 (fun _ _ h => h) (hK13 ((k + 1, _)) _ _ ?_ ?_ (sub_cons rfl (sub_cons rfl sub_nil)) (sub_cons rfl (sub_cons rfl (sub_cons rfl (sub_cons rfl (sub_cons rfl (sub_cons rfl (sub_cons rfl sub_nil))))))) (by exact subH_nil) subH_nil))
              · try dsimp only
                first
                  | exact ⟨by omega, by rw [kS_succ hx34, nv_nn (by omega), hu]; omega⟩
                  | exact ⟨by omega, by rw [kS_succ hx34, nv_neg (by omega), hu]; omega⟩
              · try dsimp only
                omega
            · refine wp_skip' (to_k0 (fun _ _ h => h) (hK16 _ _ _ ?_))
              clear hK16
              refine wp_reg ?_
              refine ol_r (r_add rfl rfl (by omega)) rfl ?_
              refine ol_r (r_move rfl) rfl ?_
              refine ol_nil (to_k0 (fun _ _ h => h) (hK13 ((k + 1, _)) _ _ ?_ ?_ (sub_cons rfl (sub_cons rfl sub_nil)) (sub_cons rfl (sub_cons rfl (sub_cons rfl (sub_cons rfl (sub_cons rfl (sub_cons rfl (sub_cons rfl sub_nil))))))) (by exact subH_nil) subH_nil))
              · try dsimp only
                first
                  | exact ⟨by omega, by rw [kS_succ hx34, nv_nn (by omega), hu]; omega⟩
                  | exact ⟨by omega, by rw [kS_succ hx34, nv_neg (by omega), hu]; omega⟩
              · try dsimp only
                omega
          · refine wp_exit' (to_k0 (fun _ _ h => h) (hK11 _ _ _ ?_))
            clear hK11
            refine wp_seq' fun K19 hK19 => ?_
            refine wp_reg ?_
            refine ol_r (r_move rfl) rfl ?_
            refine ol_r (r_move rfl) rfl ?_
            have hok := streamR_ok (HardR_ok hR hc19)
            have hrb := HardR_bd hR
            have ht := inB_iff.1 (show inB t 1 10000 = true by simpa using hc23)
            have qk := kS_bd xs k
            have q1 := mul_bd hrb.1 hrb.2 hrb.1 hrb.2
            have q2 := mul_bd (a := r * r) (b := u) (A := 100000000) (B := 1000000) (by omega) (by omega) (by omega) (by omega)
            have q3 := mul_bd (a := 3600 * t) (b := t) (A := 36000000) (B := 10000) (by omega) (by omega) (by omega) (by omega)
            have q4 : 0 < 3600 * t * t := Int.mul_pos (by omega) (by omega)
            refine ol_r (r_mul rfl rfl (by omega)) rfl ?_
            refine ol_r (r_move rfl) rfl ?_
            refine ol_r (r_mul rfl rfl (by omega)) rfl ?_
            refine ol_r (r_mul rfl rfl (by omega)) rfl ?_
            refine ol_r (r_move rfl) rfl ?_
            refine ol_r (r_mul rfl rfl (by omega)) rfl ?_
            refine ol_r (r_move rfl) rfl ?_
            refine ol_r (r_mul rfl rfl (by omega)) rfl ?_
            first | refine ol_r (r_quo rfl rfl (by omega)) rfl ?_ | refine ol_r (r_tquo rfl rfl (by omega)) rfl ?_
            refine ol_r (r_assign rfl) rfl ?_
            refine ol_r (r_assign rfl) rfl ?_
            refine ol_r (r_assign rfl) rfl ?_
            refine ol_nil (to_k0 (fun _ _ h => h) (hK19 _ _ _ ?_))
            clear hK19
            refine hQ.ret (rvs3 (rv_t rfl) (rv_t rfl) (rv_t rfl)) (fun _ _ h => h) fun w hb hs hB hkd => ?_
            first
              | (exact ⟨_, _, _, PowR.re hR hc19, rfl, hb⟩; done)
              | (exact ⟨_, _, _, PowR.r9 hR hc19 (by simpa using hc23), rfl, hb⟩; done)
              | (exact ⟨_, _, _, PowR.rn hR hc19 (by simpa using hc23) (by simpa using hc27), rfl, hb⟩; done)
              | (have hk' : k = xs.length := by omega
                 subst hk'
                 refine ⟨_, 0, true, PowR.r0 hR hc19 (by simpa using hc23) (by simpa using hc27), ?_, hb⟩
                 rw [← hu])
theorem ref_Power (a : Option Addr) (n cap : Nat) (xs : List Int) (t : Int) (w : World) (hl : Rd encI w.heap.size w a n cap xs) :
    Calls Try.prog 58 #[.slice a n cap, .int .i64 t] w fun e w' => ∃ (r c : Int) (ok : Bool), PowR xs t r ok c ∧ e = .returned (.tuple #[.int .i64 r, .bool ok, .int .i64 c]) ∧ Below w.heap.size w w' := by
  have hn := hl.len
  have hfit := hl.fit
  subst hn
  refine enterQ (N := 48) (C := fun _ => True) (H := []) (B := w.heap.size) (args := [_, _]) Try.func58 rfl rfl rfl (Nat.le_refl _) (Sat.nil _ _) fun Q hQ => ?_
  refine wp_seq' fun K1 hK1 => ?_
  refine wp_reg ?_
  refine ol_r (r_assign rfl) rfl ?_
  refine ol_r (r_assign rfl) rfl ?_
  refine ol_r (r_assign rfl) rfl ?_
  refine ol_nil (to_k0 (fun _ _ h => h) (hK1 _ _ _ ?_))
  clear hK1
  refine wp_seq' fun K2 hK2 => ?_
  refine wp_reg ?_
  refine ol_r (r_move rfl) rfl ?_
  refine ol_call rfl rfl cb88 rfl (fun w1 hb1 hs1 hB1 => ?_)
  refine Calls.mono (ref_Hard _ _ _ xs _ (hl.at hb1 hB1)) ?_
  rintro e w2 ⟨r, c, ok, hR, rfl, hb2⟩
  refine After.below rfl hb1 hs1 hB1 hb2 ?_
  clear hb2 hB1 hs1 hb1 w2 w1
  refine ol_r (r_move rfl) rfl ?_
  refine ol_r (r_extract rfl rfl) rfl ?_
  refine ol_r (r_extract rfl rfl) rfl ?_
  refine ol_r (r_extract rfl rfl) rfl ?_
  refine ol_r (r_assign rfl) rfl ?_
  refine ol_r (r_assign rfl) rfl ?_
  refine ol_r (r_assign rfl) rfl ?_
  refine ol_nil (to_k0 (fun _ _ h => h) (hK2 _ _ _ ?_))
  clear hK2
  refine wp_seq' fun K3 hK3 => ?_
  refine wp_seq' fun K4 hK4 => ?_
  refine wp_reg ?_
  refine ol_r (r_move rfl) rfl ?_
  refine ol_r (r_neq rfl rfl) rfl ?_
  refine ol_nil (to_k0 (fun _ _ h => h) (hK4 _ _ _ ?_))
  clear hK4
  first | refine wp_condD rfl (fun hc20 => ?_) (fun hc20 => ?_) | refine wp_condN rfl (fun hc20 => ?_) (fun hc20 => ?_) | refine wp_condNB rfl (fun hc20 => ?_) (fun hc20 => ?_) | refine wp_cond' rfl (fun hc20 => ?_) (fun hc20 => ?_)
  · refine wp_seq' fun K5 hK5 => ?_
    refine wp_reg ?_
    refine ol_r (r_move rfl) rfl ?_
    refine ol_r (r_assign rfl) rfl ?_
    refine ol_r (r_assign rfl) rfl ?_
    refine ol_r (r_assign rfl) rfl ?_
    refine ol_nil (to_k0 (fun _ _ h => h) (hK5 _ _ _ ?_))
    clear hK5
    refine hQ.ret (rvs3 (rv_t rfl) (rv_t rfl) (rv_t rfl)) (fun _ _ h => h) fun w hb hs hB hkd => ?_
    first
      | (exact ⟨_, _, _, PowR.re hR hc20, rfl, hb⟩; done)
      | (exact ⟨_, _, _, PowR.r9 hR hc20 (by simpa using hc23), rfl, hb⟩; done)
      | (exact ⟨_, _, _, PowR.rn hR hc20 (by simpa using hc23) (by simpa using hc25), rfl, hb⟩; done)
      | (have hk' : k = xs.length := by omega
         subst hk'
         refine ⟨_, 0, true, PowR.r0 hR hc20 (by simpa using hc23) (by simpa using hc25), ?_, hb⟩
         rw [← hu])
  · refine wp_skip' (to_k0 (fun _ _ h => h) (hK3 _ _ _ ?_))
    clear hK3
    refine wp_seq' fun K6 hK6 => ?_
    refine wp_seq' fun K7 hK7 => ?_
    refine wp_reg ?_
    refine ol_r (r_move rfl) rfl ?_
    refine ol_call rfl rfl cb62 rfl (fun w1 hb1 hs1 hB1 => Calls.mono (ref_outside _ _ _ _) ?_)
    rintro e w2 ⟨rfl, hb2⟩
    refine After.below rfl hb1 hs1 hB1 hb2 ?_
    clear hb2 hB1 hs1 hb1 w2 w1
    refine ol_nil (to_k0 (fun _ _ h => h) (hK7 _ _ _ ?_))
    clear hK7
    first | refine wp_condD rfl (fun hc23 => ?_) (fun hc23 => ?_) | refine wp_condN rfl (fun hc23 => ?_) (fun hc23 => ?_) | refine wp_condNB rfl (fun hc23 => ?_) (fun hc23 => ?_) | refine wp_cond' rfl (fun hc23 => ?_) (fun hc23 => ?_)
    · refine wp_seq' fun K8 hK8 => ?_
      refine wp_reg ?_
      refine ol_r (r_assign rfl) rfl ?_
      refine ol_r (r_assign rfl) rfl ?_
      refine ol_r (r_assign rfl) rfl ?_
      refine ol_nil (to_k0 (fun _ _ h => h) (hK8 _ _ _ ?_))
      clear hK8
      refine hQ.ret (rvs3 (rv_t rfl) (rv_t rfl) (rv_t rfl)) (fun _ _ h => h) fun w hb hs hB hkd => ?_
      first
        | (exact ⟨_, _, _, PowR.re hR hc20, rfl, hb⟩; done)
        | (exact ⟨_, _, _, PowR.r9 hR hc20 (by simpa using hc23), rfl, hb⟩; done)
        | (exact ⟨_, _, _, PowR.rn hR hc20 (by simpa using hc23) (by simpa using hc25), rfl, hb⟩; done)
        | (have hk' : k = xs.length := by omega
           subst hk'
           refine ⟨_, 0, true, PowR.r0 hR hc20 (by simpa using hc23) (by simpa using hc25), ?_, hb⟩
           rw [← hu])
    · refine wp_skip' (to_k0 (fun _ _ h => h) (hK6 _ _ _ ?_))
      clear hK6
      refine wp_seq' fun K9 hK9 => ?_
      refine wp_seq' fun K10 hK10 => ?_
      refine wp_reg ?_
      refine ol_r (r_move rfl) rfl ?_
      refine ol_r (r_not rfl) rfl ?_
      refine ol_nil (to_k0 (fun _ _ h => h) (hK10 _ _ _ ?_))
      clear hK10
      first | refine wp_condD rfl (fun hc25 => ?_) (fun hc25 => ?_) | refine wp_condN rfl (fun hc25 => ?_) (fun hc25 => ?_) | refine wp_condNB rfl (fun hc25 => ?_) (fun hc25 => ?_) | refine wp_cond' rfl (fun hc25 => ?_) (fun hc25 => ?_)
      · refine wp_seq' fun K11 hK11 => ?_
        refine wp_reg ?_
        refine ol_r (r_assign rfl) rfl ?_
        refine ol_r (r_assign rfl) rfl ?_
        refine ol_r (r_assign rfl) rfl ?_
        refine ol_nil (to_k0 (fun _ _ h => h) (hK11 _ _ _ ?_))
        clear hK11
        refine hQ.ret (rvs3 (rv_t rfl) (rv_t rfl) (rv_t rfl)) (fun _ _ h => h) fun w hb hs hB hkd => ?_
        first
          | (exact ⟨_, _, _, PowR.re hR hc20, rfl, hb⟩; done)
          | (exact ⟨_, _, _, PowR.r9 hR hc20 (by simpa using hc23), rfl, hb⟩; done)
          | (exact ⟨_, _, _, PowR.rn hR hc20 (by simpa using hc23) (by simpa using hc25), rfl, hb⟩; done)
          | (have hk' : k = xs.length := by omega
             subst hk'
             refine ⟨_, 0, true, PowR.r0 hR hc20 (by simpa using hc23) (by simpa using hc25), ?_, hb⟩
             rw [← hu])
      · refine wp_skip' (to_k0 (fun _ _ h => h) (hK9 _ _ _ ?_))
        clear hK9
        refine wp_seq' fun K12 hK12 => ?_
        refine wp_reg ?_
        refine ol_r (r_assign rfl) rfl ?_
        refine ol_nil (to_k0 (fun _ _ h => h) (hK12 _ _ _ ?_))
        clear hK12
        refine wp_seq' fun K13 hK13 => ?_
        refine wp_seq' fun K14 hK14 => ?_
        refine wp_reg ?_
        refine ol_r (r_move rfl) rfl ?_
        refine ol_r (r_len rfl sl22) rfl ?_
        refine ol_r (r_move rfl) rfl ?_
        refine ol_nil (to_k0 (fun _ _ h => h) (hK14 _ _ _ ?_))
        clear hK14
        refine wp_block' ?_
        apply wp_loopM (σ := Nat × Int) (fun s => s.1 ≤ xs.length ∧ s.2 = kS xs s.1) (fun s => [(28, .int .i64 s.1), (10, .int .i64 s.2)]) [(1, _), (4, _), (5, _), (6, _), (7, _), (26, _), (27, _)] (fun s => []) [] (fun s => xs.length - s.1) ((0, 0))
        · try dsimp only
          exact ⟨Nat.zero_le _, (kS_zero _).symm⟩
        · exact (sub_cons rfl (sub_cons rfl sub_nil))
        · exact (sub_cons rfl (sub_cons rfl (sub_cons rfl (sub_cons rfl (sub_cons rfl (sub_cons rfl (sub_cons rfl sub_nil)))))))
        · exact subH_nil
        · exact subH_nil
        · rintro ⟨k, u⟩ ⟨hk, hu⟩
          dsimp only at hk hu ⊢
          intro K15 hK15
          refine wp_seq' fun K16 hK16 => ?_
          refine wp_reg ?_
          refine ol_r (r_lss rfl rfl) rfl ?_
          refine ol_nil (to_k0 (fun _ _ h => h) (hK16 _ _ _ ?_))
          clear hK16
          refine wp_seq' fun K17 hK17 => ?_
          first | refine wp_condD rfl (fun hc29 => ?_) (fun hc29 => ?_) | refine wp_condN rfl (fun hc29 => ?_) (fun hc29 => ?_) | refine wp_condNB rfl (fun hc29 => ?_) (fun hc29 => ?_) | refine wp_cond' rfl (fun hc29 => ?_) (fun hc29 => ?_)
          · refine wp_skip' (to_k0 (fun _ _ h => h) (hK17 _ _ _ ?_))
            clear hK17
            refine wp_seq' fun K18 hK18 => ?_
            refine wp_block' ?_
            refine wp_seq' fun K19 hK19 => ?_
            refine wp_reg ?_
            refine ol_ixr hl rfl rfl sl22 (by omega) rfl fun x30 hx30 => ?_
            try simp only [Int.toNat_natCast] at hx30
            have hok := streamR_ok (HardR_ok hR hc20)
            have qk := kS_bd xs k
            refine ol_r (r_ldw rfl (fun w1 hb1 hs1 hB1 => show Loads _ _ _ _ (.int .i64 x30) from Rd.loads hl ty3 hx30 hb1)) rfl ?_
            refine ol_r (r_assign rfl) rfl ?_
            refine ol_nil (to_k0 (fun _ _ h => h) (hK19 _ _ _ ?_))
            clear hK19
            refine wp_seq' fun K20 hK20 => ?_
            refine wp_reg ?_
            refine ol_r (r_move rfl) rfl ?_
            refine ol_r (r_geq rfl rfl) rfl ?_
            refine ol_nil (to_k0 (fun _ _ h => h) (hK20 _ _ _ ?_))
            clear hK20
            first | refine wp_condD rfl (fun hc33 => ?_) (fun hc33 => ?_) | refine wp_condN rfl (fun hc33 => ?_) (fun hc33 => ?_) | refine wp_condNB rfl (fun hc33 => ?_) (fun hc33 => ?_) | refine wp_cond' rfl (fun hc33 => ?_) (fun hc33 => ?_)
            · refine wp_reg ?_
              refine ol_r (r_move rfl) rfl ?_
              refine ol_r (r_add rfl rfl (by omega)) rfl ?_
              refine ol_r (r_assign rfl) rfl ?_
              refine ol_nil (to_k0 (fun _ _ h => h) (hK18 _ _ _ ?_))
              clear hK18
              refine wp_reg ?_
              refine ol_r (r_add rfl rfl (by omega)) rfl ?_
              refine ol_r (r_move rfl) rfl ?_
              refine ol_nil (to_k0 (fun _ _ h => h) (hK15 ((k + 1, _)) _ _ ?_ ?_ (sub_cons rfl (sub_cons rfl sub_nil)) (sub_cons rfl (sub_cons rfl (sub_cons rfl (sub_cons rfl (sub_cons rfl (sub_cons rfl (sub_cons rfl sub_nil))))))) (by exact subH_nil) subH_nil))
              · try dsimp only
                first
                  | exact ⟨by omega, by rw [kS_succ hx30, nv_nn (by omega), hu]; omega⟩
                  | exact ⟨by omega, by rw [kS_succ hx30, nv_neg (by omega), hu]; omega⟩
              · try dsimp only
                omega
            · refine wp_skip' (to_k0 (fun _ _ h => h) (hK18 _ _ _ ?_))
              clear hK18
              refine wp_reg ?_
              refine ol_r (r_add rfl rfl (by omega)) rfl ?_
              refine ol_r (r_move rfl) rfl ?_
              refine ol_nil (to_k0 (fun _ _ h => h) (hK15 ((k + 1, _)) _ _ ?_ ?_ (sub_cons rfl (sub_cons rfl sub_nil)) (sub_cons rfl (sub_cons rfl (sub_cons rfl (sub_cons rfl (sub_cons rfl (sub_cons rfl (sub_cons rfl sub_nil))))))) (by exact subH_nil) subH_nil))
              · try dsimp only
                first
                  | exact ⟨by omega, by rw [kS_succ hx30, nv_nn (by omega), hu]; omega⟩
                  | exact ⟨by omega, by rw [kS_succ hx30, nv_neg (by omega), hu]; omega⟩
              · try dsimp only
                omega
          · refine wp_exit' (to_k0 (fun _ _ h => h) (hK13 _ _ _ ?_))
            clear hK13
            refine wp_seq' fun K21 hK21 => ?_
            refine wp_reg ?_
            refine ol_r (r_move rfl) rfl ?_
            refine ol_r (r_move rfl) rfl ?_
            have hok := streamR_ok (HardR_ok hR hc20)
            have hrb := HardR_bd hR
            have ht := inB_iff.1 (show inB t 1 10000 = true by simpa using hc23)
            have qk := kS_bd xs k
            have q1 := mul_bd hrb.1 hrb.2 hrb.1 hrb.2
            have q2 := mul_bd (a := r * r) (b := u) (A := 100000000) (B := 1000000) (by omega) (by omega) (by omega) (by omega)
            have q3 := mul_bd (a := 3600 * t) (b := t) (A := 36000000) (B := 10000) (by omega) (by omega) (by omega) (by omega)
            have q4 : 0 < 3600 * t * t := Int.mul_pos (by omega) (by omega)
            refine ol_r (r_mul rfl rfl (by omega)) rfl ?_
            refine ol_r (r_move rfl) rfl ?_
            refine ol_r (r_mul rfl rfl (by omega)) rfl ?_
            refine ol_r (r_mul rfl rfl (by omega)) rfl ?_
            refine ol_r (r_move rfl) rfl ?_
            refine ol_r (r_mul rfl rfl (by omega)) rfl ?_
            refine ol_r (r_move rfl) rfl ?_
            refine ol_r (r_mul rfl rfl (by omega)) rfl ?_
            first | refine ol_r (r_quo rfl rfl (by omega)) rfl ?_ | refine ol_r (r_tquo rfl rfl (by omega)) rfl ?_
            refine ol_r (r_assign rfl) rfl ?_
            refine ol_r (r_assign rfl) rfl ?_
            refine ol_r (r_assign rfl) rfl ?_
            refine ol_nil (to_k0 (fun _ _ h => h) (hK21 _ _ _ ?_))
            clear hK21
            refine hQ.ret (rvs3 (rv_t rfl) (rv_t rfl) (rv_t rfl)) (fun _ _ h => h) fun w hb hs hB hkd => ?_
            first
              | (exact ⟨_, _, _, PowR.re hR hc20, rfl, hb⟩; done)
              | (exact ⟨_, _, _, PowR.r9 hR hc20 (by simpa using hc23), rfl, hb⟩; done)
              | (exact ⟨_, _, _, PowR.rn hR hc20 (by simpa using hc23) (by simpa using hc25), rfl, hb⟩; done)
              | (have hk' : k = xs.length := by omega
                 subst hk'
                 refine ⟨_, 0, true, PowR.r0 hR hc20 (by simpa using hc23) (by simpa using hc25), ?_, hb⟩
                 rw [← hu])
/-- Pulse: the load, and an error. -/
def PulR (xs zs ws : List Int) (r e : Int) : Prop := ∃ (out : List Int) (u c : Int), ZonesR xs zs out u c ∧
  (if c ≠ 0 then r = 0 ∧ e = c else if ws.length ≠ out.length then r = 0 ∧ e = 2 else if ws.all (inB · 0 1000) = false then r = 0 ∧ e = 9 else r = plS ws out ws.length / 60 ∧ e = 0)
theorem PulR.unique {xs zs ws : List Int} {r r' e e' : Int} (h : PulR xs zs ws r e) (h' : PulR xs zs ws r' e') : r = r' ∧ e = e' := by
  obtain ⟨out, u, c, h1, h2⟩ := h
  obtain ⟨out', u', c', h1', h2'⟩ := h'
  obtain ⟨rfl, rfl, rfl⟩ := h1.unique h1'
  by_cases q1 : c ≠ 0
  · rw [if_pos q1] at h2 h2'; exact ⟨by rw [h2.1, h2'.1], by rw [h2.2, h2'.2]⟩
  · rw [if_neg q1] at h2 h2'
    by_cases q2 : ws.length ≠ out.length
    · rw [if_pos q2] at h2 h2'; exact ⟨by rw [h2.1, h2'.1], by rw [h2.2, h2'.2]⟩
    · rw [if_neg q2] at h2 h2'
      by_cases q3 : ws.all (inB · 0 1000) = false
      · rw [if_pos q3] at h2 h2'; exact ⟨by rw [h2.1, h2'.1], by rw [h2.2, h2'.2]⟩
      · rw [if_neg q3] at h2 h2'; exact ⟨by rw [h2.1, h2'.1], by rw [h2.2, h2'.2]⟩
theorem PulR.re {xs zs ws out : List Int} {u c : Int} (hR : ZonesR xs zs out u c) (hc : c ≠ 0) : PulR xs zs ws 0 c := ⟨out, u, c, hR, by rw [if_pos hc]; exact ⟨rfl, rfl⟩⟩
theorem PulR.r2 {xs zs ws out : List Int} {u c : Int} (hR : ZonesR xs zs out u c) (hc : ¬c ≠ 0) (h : ws.length ≠ out.length) : PulR xs zs ws 0 2 := ⟨out, u, c, hR, by rw [if_neg hc, if_pos h]; exact ⟨rfl, rfl⟩⟩
theorem PulR.r9 {xs zs ws out : List Int} {u c x : Int} {k : Nat} (hR : ZonesR xs zs out u c) (hc : ¬c ≠ 0) (h : ws.length = out.length) (hx : ws[k]? = some x) (hb : inB x 0 1000 = false) : PulR xs zs ws 0 9 :=
  ⟨out, u, c, hR, by rw [if_neg hc, if_neg (by omega), if_pos (all_false hx hb)]; exact ⟨rfl, rfl⟩⟩
theorem PulR.r0 {xs zs ws out : List Int} {u c : Int} (hR : ZonesR xs zs out u c) (hc : ¬c ≠ 0) (h : ws.length = out.length) (hb : ∀ x ∈ ws, 0 ≤ x ∧ x ≤ 1000) : PulR xs zs ws (plS ws out ws.length / 60) 0 :=
  ⟨out, u, c, hR, by rw [if_neg hc, if_neg (by omega), if_neg (by rw [List.all_eq_true.2 (fun x hx => inB_iff.2 (hb x hx))]; simp)]; exact ⟨rfl, rfl⟩⟩
theorem load_Pulse (a b : Option Addr) (n cap m c2 : Nat) (xs zs : List Int) (d : Option Addr) (q c3 : Nat) (ws : List Int) (w : World) (hl : Rd encI w.heap.size w a n cap xs) (hz : Rd encI w.heap.size w b m c2 zs) (hw : Rd encI w.heap.size w d q c3 ws) :
    Calls Try.prog 59 #[.slice a n cap, .slice b m c2, .slice d q c3] w fun e w' => ∃ (r c : Int), PulR xs zs ws r c ∧ e = .returned (.tuple #[.int .i64 r, .int .i64 c]) ∧ Below w.heap.size w w' := by
  have hn := hw.len
  have hfit := hw.fit
  subst hn
  refine enterQ (N := 52) (C := fun _ => True) (H := []) (B := w.heap.size) (args := [_, _, _]) Try.func59 rfl rfl rfl (Nat.le_refl _) (Sat.nil _ _) fun Q hQ => ?_
  refine wp_seq' fun K1 hK1 => ?_
  refine wp_reg ?_
  refine ol_r (r_assign rfl) rfl ?_
  refine ol_r (r_assign rfl) rfl ?_
  refine ol_nil (to_k0 (fun _ _ h => h) (hK1 _ _ _ ?_))
  clear hK1
  refine wp_seq' fun K2 hK2 => ?_
  refine wp_reg ?_
  refine ol_r (r_move rfl) rfl ?_
  refine ol_r (r_move rfl) rfl ?_
  refine ol_call rfl rfl cb89 rfl (fun w1 hb1 hs1 hB1 => ?_)
  refine Calls.mono (effort_Zones _ _ _ _ _ _ xs zs _ (hl.at hb1 hB1) (hz.at hb1 hB1)) ?_
  rintro e w2 ⟨out, u, c, o, k0, kc, hR, rfl, hf⟩
  have hk0 := hf.len
  refine After.fresh (id := 17) rfl hb1 hs1 hB1 hf ?_
  clear hf hB1 hs1 hb1 w2 w1
  refine ol_r (r_move rfl) rfl ?_
  refine ol_r (r_extract rfl rfl) rfl ?_
  refine ol_r (r_extract rfl rfl) rfl ?_
  refine ol_r (r_extract rfl rfl) rfl ?_
  refine ol_r (r_assign rfl) rfl ?_
  refine ol_r (r_assign rfl) rfl ?_
  refine ol_r (r_assign rfl) rfl ?_
  refine ol_nil (to_k0 (fun _ _ h => h) (hK2 _ _ _ ?_))
  clear hK2
  refine wp_seq' fun K3 hK3 => ?_
  refine wp_block' ?_
  refine wp_seq' fun K4 hK4 => ?_
  refine wp_reg ?_
  refine ol_r (r_move rfl) rfl ?_
  refine ol_r (r_neq rfl rfl) rfl ?_
  refine ol_r (r_assign rfl) rfl ?_
  refine ol_nil (to_k0 (fun _ _ h => h) (hK4 _ _ _ ?_))
  clear hK4
  first | refine wp_condD rfl (fun hc21 => ?_) (fun hc21 => ?_) | refine wp_condN rfl (fun hc21 => ?_) (fun hc21 => ?_) | refine wp_condNB rfl (fun hc21 => ?_) (fun hc21 => ?_) | refine wp_cond' rfl (fun hc21 => ?_) (fun hc21 => ?_)
  · refine wp_seq' fun K5 hK5 => ?_
    refine wp_reg ?_
    refine ol_r (r_move rfl) rfl ?_
    refine ol_r (r_assign rfl) rfl ?_
    refine ol_r (r_assign rfl) rfl ?_
    refine ol_nil (to_k0 (fun _ _ h => h) (hK5 _ _ _ ?_))
    clear hK5
    refine hQ.ret (rvs2 (rv_t rfl) (rv_t rfl)) (fun _ _ h => h) fun w hb hs hB hkd => ?_
    first
      | (exact ⟨_, _, PulR.re hR hc21, rfl, hb⟩; done)
      | (exact ⟨_, _, PulR.r2 hR hc21 (by omega), rfl, hb⟩; done)
      | (exact ⟨_, _, PulR.r9 hR hc21 (by omega) hx36 (by simpa using hc40), rfl, hb⟩; done)
      | (have hk' : k = ws.length := by omega
         subst hk'
         refine ⟨_, _, PulR.r0 hR hc21 (by omega) (fun x hx => ?_), ?_, hb⟩
         · obtain ⟨i, hi⟩ := List.getElem?_of_mem hx
           exact hP i x hi (List.getElem?_eq_some_iff.1 hi).1
         · rw [← hu])
  · refine wp_seq' fun K6 hK6 => ?_
    refine wp_reg ?_
    refine ol_r (r_move rfl) rfl ?_
    refine ol_r (r_len rfl sl22) rfl ?_
    refine ol_r (r_move rfl) rfl ?_
    refine ol_r (r_len rfl sl22) rfl ?_
    refine ol_r (r_neq rfl rfl) rfl ?_
    refine ol_r (r_assign rfl) rfl ?_
    refine ol_nil (to_k0 (fun _ _ h => h) (hK6 _ _ _ ?_))
    clear hK6
    first | refine wp_condD rfl (fun hc25 => ?_) (fun hc25 => ?_) | refine wp_condN rfl (fun hc25 => ?_) (fun hc25 => ?_) | refine wp_condNB rfl (fun hc25 => ?_) (fun hc25 => ?_) | refine wp_cond' rfl (fun hc25 => ?_) (fun hc25 => ?_)
    · refine wp_seq' fun K7 hK7 => ?_
      refine wp_reg ?_
      refine ol_r (r_assign rfl) rfl ?_
      refine ol_r (r_assign rfl) rfl ?_
      refine ol_nil (to_k0 (fun _ _ h => h) (hK7 _ _ _ ?_))
      clear hK7
      refine hQ.ret (rvs2 (rv_t rfl) (rv_t rfl)) (fun _ _ h => h) fun w hb hs hB hkd => ?_
      first
        | (exact ⟨_, _, PulR.re hR hc21, rfl, hb⟩; done)
        | (exact ⟨_, _, PulR.r2 hR hc21 (by omega), rfl, hb⟩; done)
        | (exact ⟨_, _, PulR.r9 hR hc21 (by omega) hx36 (by simpa using hc40), rfl, hb⟩; done)
        | (have hk' : k = ws.length := by omega
           subst hk'
           refine ⟨_, _, PulR.r0 hR hc21 (by omega) (fun x hx => ?_), ?_, hb⟩
           · obtain ⟨i, hi⟩ := List.getElem?_of_mem hx
             exact hP i x hi (List.getElem?_eq_some_iff.1 hi).1
           · rw [← hu])
    · refine wp_skip' (to_k0 (fun _ _ h => h) (hK3 _ _ _ ?_))
      clear hK3
      refine wp_seq' fun K8 hK8 => ?_
      refine wp_reg ?_
      refine ol_r (r_assign rfl) rfl ?_
      refine ol_nil (to_k0 (fun _ _ h => h) (hK8 _ _ _ ?_))
      clear hK8
      refine wp_seq' fun K9 hK9 => ?_
      refine wp_seq' fun K10 hK10 => ?_
      refine wp_reg ?_
      refine ol_r (r_move rfl) rfl ?_
      refine ol_r (r_len rfl sl22) rfl ?_
      refine ol_r (r_move rfl) rfl ?_
      refine ol_nil (to_k0 (fun _ _ h => h) (hK10 _ _ _ ?_))
      clear hK10
      refine wp_block' ?_
      apply wp_loopM (σ := Nat × Int) (fun s => s.1 ≤ ws.length ∧ s.2 = plS ws out s.1 ∧ ∀ (i : Nat) x, ws[i]? = some x → i < s.1 → 0 ≤ x ∧ x ≤ 1000) (fun s => [(33, .int .i64 s.1), (11, .int .i64 s.2)]) [(8, _), (31, _), (32, _)] (fun s => []) [(17, _)] (fun s => ws.length - s.1) ((0, 0))
      · try dsimp only
        exact ⟨Nat.zero_le _, (plS_zero _ _).symm, fun i x _ h => by omega⟩
      · exact (sub_cons rfl (sub_cons rfl sub_nil))
      · exact (sub_cons rfl (sub_cons rfl (sub_cons rfl sub_nil)))
      · exact subH_nil
      · exact (subH_same rfl subH_nil)
      · rintro ⟨k, u2⟩ ⟨hk, hu, hP⟩
        dsimp only at hk hu hP ⊢
        intro K11 hK11
        refine wp_seq' fun K12 hK12 => ?_
        refine wp_reg ?_
        refine ol_r (r_lss rfl rfl) rfl ?_
        refine ol_nil (to_k0 (fun _ _ h => h) (hK12 _ _ _ ?_))
        clear hK12
        refine wp_seq' fun K13 hK13 => ?_
        first | refine wp_condD rfl (fun hc34 => ?_) (fun hc34 => ?_) | refine wp_condN rfl (fun hc34 => ?_) (fun hc34 => ?_) | refine wp_condNB rfl (fun hc34 => ?_) (fun hc34 => ?_) | refine wp_cond' rfl (fun hc34 => ?_) (fun hc34 => ?_)
        · refine wp_skip' (to_k0 (fun _ _ h => h) (hK13 _ _ _ ?_))
          clear hK13
          refine wp_seq' fun K14 hK14 => ?_
          refine wp_block' ?_
          refine wp_seq' fun K15 hK15 => ?_
          refine wp_reg ?_
          refine ol_r (r_move rfl) rfl ?_
          refine ol_ixr hw rfl rfl sl22 (by omega) rfl fun x36 hx36 => ?_
          try simp only [Int.toNat_natCast] at hx36
          refine ol_r (r_ldw rfl (fun w1 hb1 hs1 hB1 => show Loads _ _ _ _ (.int .i64 x36) from Rd.loads hw ty3 hx36 hb1)) rfl ?_
          refine ol_r (r_assign rfl) rfl ?_
          refine ol_r (r_assign rfl) rfl ?_
          refine ol_nil (to_k0 (fun _ _ h => h) (hK15 _ _ _ ?_))
          clear hK15
          refine wp_seq' fun K16 hK16 => ?_
          refine wp_seq' fun K17 hK17 => ?_
          refine wp_reg ?_
          refine ol_r (r_move rfl) rfl ?_
          refine ol_call rfl rfl cb67 rfl (fun w1 hb1 hs1 hB1 => Calls.mono (load_in _ _ _ _) ?_)
          rintro e w2 ⟨rfl, hb2⟩
          refine After.below rfl hb1 hs1 hB1 hb2 ?_
          clear hb2 hB1 hs1 hb1 w2 w1
          refine ol_r (r_not rfl) rfl ?_
          refine ol_nil (to_k0 (fun _ _ h => h) (hK17 _ _ _ ?_))
          clear hK17
          first | refine wp_condD rfl (fun hc40 => ?_) (fun hc40 => ?_) | refine wp_condN rfl (fun hc40 => ?_) (fun hc40 => ?_) | refine wp_condNB rfl (fun hc40 => ?_) (fun hc40 => ?_) | refine wp_cond' rfl (fun hc40 => ?_) (fun hc40 => ?_)
          · refine wp_seq' fun K18 hK18 => ?_
            refine wp_reg ?_
            refine ol_r (r_assign rfl) rfl ?_
            refine ol_r (r_assign rfl) rfl ?_
            refine ol_nil (to_k0 (fun _ _ h => h) (hK18 _ _ _ ?_))
            clear hK18
            refine hQ.ret (rvs2 (rv_t rfl) (rv_t rfl)) (fun _ _ h => h) fun w hb hs hB hkd => ?_
            first
              | (exact ⟨_, _, PulR.re hR hc21, rfl, hb⟩; done)
              | (exact ⟨_, _, PulR.r2 hR hc21 (by omega), rfl, hb⟩; done)
              | (exact ⟨_, _, PulR.r9 hR hc21 (by omega) hx36 (by simpa using hc40), rfl, hb⟩; done)
              | (have hk' : k = ws.length := by omega
                 subst hk'
                 refine ⟨_, _, PulR.r0 hR hc21 (by omega) (fun x hx => ?_), ?_, hb⟩
                 · obtain ⟨i, hi⟩ := List.getElem?_of_mem hx
                   exact hP i x hi (List.getElem?_eq_some_iff.1 hi).1
                 · rw [← hu])
          · refine wp_skip' (to_k0 (fun _ _ h => h) (hK16 _ _ _ ?_))
            clear hK16
            refine wp_reg ?_
            refine ol_r (r_move rfl) rfl ?_
            refine ol_r (r_move rfl) rfl ?_
            refine ol_r (r_move rfl) rfl ?_
            refine ol_r (r_move rfl) rfl ?_
            refine ol_ixo (id := 17) encI _ rfl rfl rfl rfl sl22 (by omega) rfl fun x45 hx45 => ?_
            try simp only [Int.toNat_natCast] at hx45
            try simp only [Int.toNat_natCast] at hx45
            refine ol_r (r_ldw rfl (fun w1 hb1 hs1 hB1 => show Loads _ _ _ _ (.int .i64 x45) from ld_own (id := 17) hs1 rfl rfl ty3 hx45)) rfl ?_
            have qz := hR.bd
            have ql : out.length = ws.length := by omega
            have qs := plS_bd (ws := ws) (ss := out) (K := k) hP qz.1 k (Nat.le_refl _) hk (by omega)
            have qx := inB_iff.1 (show inB x36 0 1000 = true by simpa using hc40)
            have qy := qz.1 _ (List.mem_of_getElem? hx45)
            have qm := mul_bd qx.1 qx.2 qy.1 qy.2
            refine ol_r (r_mul rfl rfl (by omega)) rfl ?_
            refine ol_r (r_add rfl rfl (by omega)) rfl ?_
            refine ol_r (r_assign rfl) rfl ?_
            refine ol_nil (to_k0 (fun _ _ h => h) (hK14 _ _ _ ?_))
            clear hK14
            refine wp_reg ?_
            refine ol_r (r_add rfl rfl (by omega)) rfl ?_
            refine ol_r (r_move rfl) rfl ?_
            refine ol_nil (to_k0 (fun _ _ h => h) (hK11 ((k + 1, _)) _ _ ?_ ?_ (sub_cons rfl (sub_cons rfl sub_nil)) (sub_cons rfl (sub_cons rfl (sub_cons rfl sub_nil))) (by exact subH_nil) (subH_same rfl subH_nil)))
            · try dsimp only
              refine ⟨by omega, by rw [plS_succ hx36 hx45, hu], fun i x hi hik => ?_⟩
              by_cases h : i < k
              · exact hP i x hi h
              · have : i = k := by omega
                subst this
                rw [hx36] at hi; cases hi
                exact inB_iff.1 (by simpa using hc40)
            · try dsimp only
              omega
        · refine wp_exit' (to_k0 (fun _ _ h => h) (hK9 _ _ _ ?_))
          clear hK9
          refine wp_seq' fun K19 hK19 => ?_
          refine wp_reg ?_
          refine ol_r (r_move rfl) rfl ?_
          have qz := hR.bd
          have qs := plS_bd (ws := ws) (ss := out) (K := k) hP qz.1 k (Nat.le_refl _) hk (by omega)
          first | refine ol_r (r_quo rfl rfl (by omega)) rfl ?_ | refine ol_r (r_tquo rfl rfl (by omega)) rfl ?_
          refine ol_r (r_assign rfl) rfl ?_
          refine ol_r (r_assign rfl) rfl ?_
          refine ol_nil (to_k0 (fun _ _ h => h) (hK19 _ _ _ ?_))
          clear hK19
          refine hQ.ret (rvs2 (rv_t rfl) (rv_t rfl)) (fun _ _ h => h) fun w hb hs hB hkd => ?_
          first
            | (exact ⟨_, _, PulR.re hR hc21, rfl, hb⟩; done)
            | (exact ⟨_, _, PulR.r2 hR hc21 (by omega), rfl, hb⟩; done)
            | (exact ⟨_, _, PulR.r9 hR hc21 (by omega) hx36 (by simpa using hc40), rfl, hb⟩; done)
            | (have hk' : k = ws.length := by omega
               subst hk'
               refine ⟨_, _, PulR.r0 hR hc21 (by omega) (fun x hx => ?_), ?_, hb⟩
               · obtain ⟨i, hi⟩ := List.getElem?_of_mem hx
                 exact hP i x hi (List.getElem?_eq_some_iff.1 hi).1
               · rw [← hu])
theorem ref_Pulse (a b : Option Addr) (n cap m c2 : Nat) (xs zs : List Int) (d : Option Addr) (q c3 : Nat) (ws : List Int) (w : World) (hl : Rd encI w.heap.size w a n cap xs) (hz : Rd encI w.heap.size w b m c2 zs) (hw : Rd encI w.heap.size w d q c3 ws) :
    Calls Try.prog 60 #[.slice a n cap, .slice b m c2, .slice d q c3] w fun e w' => ∃ (r c : Int), PulR xs zs ws r c ∧ e = .returned (.tuple #[.int .i64 r, .int .i64 c]) ∧ Below w.heap.size w w' := by
  have hn := hw.len
  have hfit := hw.fit
  subst hn
  refine enterQ (N := 49) (C := fun _ => True) (H := []) (B := w.heap.size) (args := [_, _, _]) Try.func60 rfl rfl rfl (Nat.le_refl _) (Sat.nil _ _) fun Q hQ => ?_
  refine wp_seq' fun K1 hK1 => ?_
  refine wp_reg ?_
  refine ol_r (r_assign rfl) rfl ?_
  refine ol_r (r_assign rfl) rfl ?_
  refine ol_nil (to_k0 (fun _ _ h => h) (hK1 _ _ _ ?_))
  clear hK1
  refine wp_seq' fun K2 hK2 => ?_
  refine wp_reg ?_
  refine ol_r (r_move rfl) rfl ?_
  refine ol_r (r_move rfl) rfl ?_
  refine ol_call rfl rfl cb90 rfl (fun w1 hb1 hs1 hB1 => ?_)
  refine Calls.mono (ref_Zones _ _ _ _ _ _ xs zs _ (hl.at hb1 hB1) (hz.at hb1 hB1)) ?_
  rintro e w2 ⟨out, u, c, o, k0, kc, hR, rfl, hf⟩
  have hk0 := hf.len
  refine After.fresh (id := 17) rfl hb1 hs1 hB1 hf ?_
  clear hf hB1 hs1 hb1 w2 w1
  refine ol_r (r_move rfl) rfl ?_
  refine ol_r (r_extract rfl rfl) rfl ?_
  refine ol_r (r_extract rfl rfl) rfl ?_
  refine ol_r (r_extract rfl rfl) rfl ?_
  refine ol_r (r_assign rfl) rfl ?_
  refine ol_r (r_assign rfl) rfl ?_
  refine ol_r (r_assign rfl) rfl ?_
  refine ol_nil (to_k0 (fun _ _ h => h) (hK2 _ _ _ ?_))
  clear hK2
  refine wp_seq' fun K3 hK3 => ?_
  refine wp_seq' fun K4 hK4 => ?_
  refine wp_reg ?_
  refine ol_r (r_move rfl) rfl ?_
  refine ol_r (r_neq rfl rfl) rfl ?_
  refine ol_nil (to_k0 (fun _ _ h => h) (hK4 _ _ _ ?_))
  clear hK4
  first | refine wp_condD rfl (fun hc22 => ?_) (fun hc22 => ?_) | refine wp_condN rfl (fun hc22 => ?_) (fun hc22 => ?_) | refine wp_condNB rfl (fun hc22 => ?_) (fun hc22 => ?_) | refine wp_cond' rfl (fun hc22 => ?_) (fun hc22 => ?_)
  · refine wp_seq' fun K5 hK5 => ?_
    refine wp_reg ?_
    refine ol_r (r_move rfl) rfl ?_
    refine ol_r (r_assign rfl) rfl ?_
    refine ol_r (r_assign rfl) rfl ?_
    refine ol_nil (to_k0 (fun _ _ h => h) (hK5 _ _ _ ?_))
    clear hK5
    refine hQ.ret (rvs2 (rv_t rfl) (rv_t rfl)) (fun _ _ h => h) fun w hb hs hB hkd => ?_
    first
      | (exact ⟨_, _, PulR.re hR hc22, rfl, hb⟩; done)
      | (exact ⟨_, _, PulR.r2 hR hc22 (by omega), rfl, hb⟩; done)
      | (exact ⟨_, _, PulR.r9 hR hc22 (by omega) hx34 (by simpa using hc37), rfl, hb⟩; done)
      | (have hk' : k = ws.length := by omega
         subst hk'
         refine ⟨_, _, PulR.r0 hR hc22 (by omega) (fun x hx => ?_), ?_, hb⟩
         · obtain ⟨i, hi⟩ := List.getElem?_of_mem hx
           exact hP i x hi (List.getElem?_eq_some_iff.1 hi).1
         · rw [← hu])
  · refine wp_skip' (to_k0 (fun _ _ h => h) (hK3 _ _ _ ?_))
    clear hK3
    refine wp_seq' fun K6 hK6 => ?_
    refine wp_seq' fun K7 hK7 => ?_
    refine wp_reg ?_
    refine ol_r (r_move rfl) rfl ?_
    refine ol_r (r_len rfl sl22) rfl ?_
    refine ol_r (r_move rfl) rfl ?_
    refine ol_r (r_len rfl sl22) rfl ?_
    refine ol_r (r_neq rfl rfl) rfl ?_
    refine ol_nil (to_k0 (fun _ _ h => h) (hK7 _ _ _ ?_))
    clear hK7
    first | refine wp_condD rfl (fun hc28 => ?_) (fun hc28 => ?_) | refine wp_condN rfl (fun hc28 => ?_) (fun hc28 => ?_) | refine wp_condNB rfl (fun hc28 => ?_) (fun hc28 => ?_) | refine wp_cond' rfl (fun hc28 => ?_) (fun hc28 => ?_)
    · refine wp_seq' fun K8 hK8 => ?_
      refine wp_reg ?_
      refine ol_r (r_assign rfl) rfl ?_
      refine ol_r (r_assign rfl) rfl ?_
      refine ol_nil (to_k0 (fun _ _ h => h) (hK8 _ _ _ ?_))
      clear hK8
      refine hQ.ret (rvs2 (rv_t rfl) (rv_t rfl)) (fun _ _ h => h) fun w hb hs hB hkd => ?_
      first
        | (exact ⟨_, _, PulR.re hR hc22, rfl, hb⟩; done)
        | (exact ⟨_, _, PulR.r2 hR hc22 (by omega), rfl, hb⟩; done)
        | (exact ⟨_, _, PulR.r9 hR hc22 (by omega) hx34 (by simpa using hc37), rfl, hb⟩; done)
        | (have hk' : k = ws.length := by omega
           subst hk'
           refine ⟨_, _, PulR.r0 hR hc22 (by omega) (fun x hx => ?_), ?_, hb⟩
           · obtain ⟨i, hi⟩ := List.getElem?_of_mem hx
             exact hP i x hi (List.getElem?_eq_some_iff.1 hi).1
           · rw [← hu])
    · refine wp_skip' (to_k0 (fun _ _ h => h) (hK6 _ _ _ ?_))
      clear hK6
      refine wp_seq' fun K9 hK9 => ?_
      refine wp_reg ?_
      refine ol_r (r_assign rfl) rfl ?_
      refine ol_nil (to_k0 (fun _ _ h => h) (hK9 _ _ _ ?_))
      clear hK9
      refine wp_seq' fun K10 hK10 => ?_
      refine wp_seq' fun K11 hK11 => ?_
      refine wp_reg ?_
      refine ol_r (r_move rfl) rfl ?_
      refine ol_r (r_len rfl sl22) rfl ?_
      refine ol_r (r_move rfl) rfl ?_
      refine ol_nil (to_k0 (fun _ _ h => h) (hK11 _ _ _ ?_))
      clear hK11
      refine wp_block' ?_
      apply wp_loopM (σ := Nat × Int) (fun s => s.1 ≤ ws.length ∧ s.2 = plS ws out s.1 ∧ ∀ (i : Nat) x, ws[i]? = some x → i < s.1 → 0 ≤ x ∧ x ≤ 1000) (fun s => [(31, .int .i64 s.1), (11, .int .i64 s.2)]) [(8, _), (29, _), (30, _)] (fun s => []) [(17, _)] (fun s => ws.length - s.1) ((0, 0))
      · try dsimp only
        exact ⟨Nat.zero_le _, (plS_zero _ _).symm, fun i x _ h => by omega⟩
      · exact (sub_cons rfl (sub_cons rfl sub_nil))
      · exact (sub_cons rfl (sub_cons rfl (sub_cons rfl sub_nil)))
      · exact subH_nil
      · exact (subH_same rfl subH_nil)
      · rintro ⟨k, u2⟩ ⟨hk, hu, hP⟩
        dsimp only at hk hu hP ⊢
        intro K12 hK12
        refine wp_seq' fun K13 hK13 => ?_
        refine wp_reg ?_
        refine ol_r (r_lss rfl rfl) rfl ?_
        refine ol_nil (to_k0 (fun _ _ h => h) (hK13 _ _ _ ?_))
        clear hK13
        refine wp_seq' fun K14 hK14 => ?_
        first | refine wp_condD rfl (fun hc32 => ?_) (fun hc32 => ?_) | refine wp_condN rfl (fun hc32 => ?_) (fun hc32 => ?_) | refine wp_condNB rfl (fun hc32 => ?_) (fun hc32 => ?_) | refine wp_cond' rfl (fun hc32 => ?_) (fun hc32 => ?_)
        · refine wp_skip' (to_k0 (fun _ _ h => h) (hK14 _ _ _ ?_))
          clear hK14
          refine wp_seq' fun K15 hK15 => ?_
          refine wp_block' ?_
          refine wp_seq' fun K16 hK16 => ?_
          refine wp_reg ?_
          refine ol_r (r_move rfl) rfl ?_
          refine ol_ixr hw rfl rfl sl22 (by omega) rfl fun x34 hx34 => ?_
          try simp only [Int.toNat_natCast] at hx34
          refine ol_r (r_ldw rfl (fun w1 hb1 hs1 hB1 => show Loads _ _ _ _ (.int .i64 x34) from Rd.loads hw ty3 hx34 hb1)) rfl ?_
          refine ol_r (r_assign rfl) rfl ?_
          refine ol_r (r_assign rfl) rfl ?_
          refine ol_nil (to_k0 (fun _ _ h => h) (hK16 _ _ _ ?_))
          clear hK16
          refine wp_seq' fun K17 hK17 => ?_
          refine wp_seq' fun K18 hK18 => ?_
          refine wp_reg ?_
          refine ol_r (r_move rfl) rfl ?_
          refine ol_call rfl rfl cb62 rfl (fun w1 hb1 hs1 hB1 => Calls.mono (ref_outside _ _ _ _) ?_)
          rintro e w2 ⟨rfl, hb2⟩
          refine After.below rfl hb1 hs1 hB1 hb2 ?_
          clear hb2 hB1 hs1 hb1 w2 w1
          refine ol_nil (to_k0 (fun _ _ h => h) (hK18 _ _ _ ?_))
          clear hK18
          first | refine wp_condD rfl (fun hc37 => ?_) (fun hc37 => ?_) | refine wp_condN rfl (fun hc37 => ?_) (fun hc37 => ?_) | refine wp_condNB rfl (fun hc37 => ?_) (fun hc37 => ?_) | refine wp_cond' rfl (fun hc37 => ?_) (fun hc37 => ?_)
          · refine wp_seq' fun K19 hK19 => ?_
            refine wp_reg ?_
            refine ol_r (r_assign rfl) rfl ?_
            refine ol_r (r_assign rfl) rfl ?_
            refine ol_nil (to_k0 (fun _ _ h => h) (hK19 _ _ _ ?_))
            clear hK19
            refine hQ.ret (rvs2 (rv_t rfl) (rv_t rfl)) (fun _ _ h => h) fun w hb hs hB hkd => ?_
            first
              | (exact ⟨_, _, PulR.re hR hc22, rfl, hb⟩; done)
              | (exact ⟨_, _, PulR.r2 hR hc22 (by omega), rfl, hb⟩; done)
              | (exact ⟨_, _, PulR.r9 hR hc22 (by omega) hx34 (by simpa using hc37), rfl, hb⟩; done)
              | (have hk' : k = ws.length := by omega
                 subst hk'
                 refine ⟨_, _, PulR.r0 hR hc22 (by omega) (fun x hx => ?_), ?_, hb⟩
                 · obtain ⟨i, hi⟩ := List.getElem?_of_mem hx
                   exact hP i x hi (List.getElem?_eq_some_iff.1 hi).1
                 · rw [← hu])
          · refine wp_skip' (to_k0 (fun _ _ h => h) (hK17 _ _ _ ?_))
            clear hK17
            refine wp_reg ?_
            refine ol_r (r_move rfl) rfl ?_
            refine ol_r (r_move rfl) rfl ?_
            refine ol_r (r_move rfl) rfl ?_
            refine ol_r (r_move rfl) rfl ?_
            refine ol_ixo (id := 17) encI _ rfl rfl rfl rfl sl22 (by omega) rfl fun x42 hx42 => ?_
            try simp only [Int.toNat_natCast] at hx42
            try simp only [Int.toNat_natCast] at hx42
            refine ol_r (r_ldw rfl (fun w1 hb1 hs1 hB1 => show Loads _ _ _ _ (.int .i64 x42) from ld_own (id := 17) hs1 rfl rfl ty3 hx42)) rfl ?_
            have qz := hR.bd
            have ql : out.length = ws.length := by omega
            have qs := plS_bd (ws := ws) (ss := out) (K := k) hP qz.1 k (Nat.le_refl _) hk (by omega)
            have qx := inB_iff.1 (show inB x34 0 1000 = true by simpa using hc37)
            have qy := qz.1 _ (List.mem_of_getElem? hx42)
            have qm := mul_bd qx.1 qx.2 qy.1 qy.2
            refine ol_r (r_mul rfl rfl (by omega)) rfl ?_
            refine ol_r (r_add rfl rfl (by omega)) rfl ?_
            refine ol_r (r_assign rfl) rfl ?_
            refine ol_nil (to_k0 (fun _ _ h => h) (hK15 _ _ _ ?_))
            clear hK15
            refine wp_reg ?_
            refine ol_r (r_add rfl rfl (by omega)) rfl ?_
            refine ol_r (r_move rfl) rfl ?_
            refine ol_nil (to_k0 (fun _ _ h => h) (hK12 ((k + 1, _)) _ _ ?_ ?_ (sub_cons rfl (sub_cons rfl sub_nil)) (sub_cons rfl (sub_cons rfl (sub_cons rfl sub_nil))) (by exact subH_nil) (subH_same rfl subH_nil)))
            · try dsimp only
              refine ⟨by omega, by rw [plS_succ hx34 hx42, hu], fun i x hi hik => ?_⟩
              by_cases h : i < k
              · exact hP i x hi h
              · have : i = k := by omega
                subst this
                rw [hx34] at hi; cases hi
                exact inB_iff.1 (by simpa using hc37)
            · try dsimp only
              omega
        · refine wp_exit' (to_k0 (fun _ _ h => h) (hK10 _ _ _ ?_))
          clear hK10
          refine wp_seq' fun K20 hK20 => ?_
          refine wp_reg ?_
          refine ol_r (r_move rfl) rfl ?_
          have qz := hR.bd
          have qs := plS_bd (ws := ws) (ss := out) (K := k) hP qz.1 k (Nat.le_refl _) hk (by omega)
          first | refine ol_r (r_quo rfl rfl (by omega)) rfl ?_ | refine ol_r (r_tquo rfl rfl (by omega)) rfl ?_
          refine ol_r (r_assign rfl) rfl ?_
          refine ol_r (r_assign rfl) rfl ?_
          refine ol_nil (to_k0 (fun _ _ h => h) (hK20 _ _ _ ?_))
          clear hK20
          refine hQ.ret (rvs2 (rv_t rfl) (rv_t rfl)) (fun _ _ h => h) fun w hb hs hB hkd => ?_
          first
            | (exact ⟨_, _, PulR.re hR hc22, rfl, hb⟩; done)
            | (exact ⟨_, _, PulR.r2 hR hc22 (by omega), rfl, hb⟩; done)
            | (exact ⟨_, _, PulR.r9 hR hc22 (by omega) hx34 (by simpa using hc37), rfl, hb⟩; done)
            | (have hk' : k = ws.length := by omega
               subst hk'
               refine ⟨_, _, PulR.r0 hR hc22 (by omega) (fun x hx => ?_), ?_, hb⟩
               · obtain ⟨i, hi⟩ := List.getElem?_of_mem hx
                 exact hP i x hi (List.getElem?_eq_some_iff.1 hi).1
               · rw [← hu])
theorem law_limits (t : Int) (a : Option Addr) (n cap : Nat) (ps : List Int) (b : Option Addr) (m c2 : Nat) (xs : List Int) (d : Option Addr) (q c3 : Nat) (ws : List Int) (w : World) (hp : Rd encI w.heap.size w a n cap ps) (hl : Rd encI w.heap.size w b m c2 xs) (hw : Rd encI w.heap.size w d q c3 ws) :
    Calls Try.prog 11 #[.int .i64 t, .slice a n cap, .slice b m c2, .slice d q c3] w fun e w' => e = .returned (.bool true) ∧ Below w.heap.size w w' := by
  refine enterQ (N := 99) (C := fun _ => True) (H := []) (B := w.heap.size) (args := [_, _, _, _]) Try.func11 rfl rfl rfl (Nat.le_refl _) (Sat.nil _ _) fun Q hQ => ?_
  refine wp_seq' fun K1 hK1 => ?_
  refine wp_reg ?_
  refine ol_r (r_assign rfl) rfl ?_
  refine ol_nil (to_k0 (fun _ _ h => h) (hK1 _ _ _ ?_))
  clear hK1
  refine wp_seq' fun K2 hK2 => ?_
  refine wp_reg ?_
  refine ol_r (r_move rfl) rfl ?_
  refine ol_r (r_move rfl) rfl ?_
  refine ol_call rfl rfl cb55 rfl (fun w1 hb1 hs1 hB1 => ?_)
  refine Calls.mono (load_Limits t _ _ _ ps _ (hp.at hb1 hB1)) ?_
  rintro e w2 ⟨out, c, o, k, kc, hR, rfl, hf⟩
  have hk := hf.len
  refine After.fresh (id := 26) rfl hb1 hs1 hB1 hf ?_
  clear hf hB1 hs1 hb1 w2 w1
  refine ol_r (r_move rfl) rfl ?_
  refine ol_r (r_extract rfl rfl) rfl ?_
  refine ol_r (r_extract rfl rfl) rfl ?_
  refine ol_r (r_assign rfl) rfl ?_
  refine ol_r (r_assign rfl) rfl ?_
  refine ol_nil (to_k0 (fun _ _ h => h) (hK2 _ _ _ ?_))
  clear hK2
  refine wp_seq' fun K3 hK3 => ?_
  refine wp_reg ?_
  refine ol_r (r_move rfl) rfl ?_
  refine ol_r (r_move rfl) rfl ?_
  refine ol_call rfl rfl cb56 rfl (fun w1 hb1 hs1 hB1 => ?_)
  refine Calls.mono (ref_Limits t _ _ _ ps _ (hp.at hb1 hB1)) ?_
  rintro e w2 ⟨out', c', o', k', kc', hR', rfl, hf⟩
  obtain ⟨rfl, rfl⟩ := hR.unique hR'
  have hk' := hf.len
  refine After.fresh (id := 32) rfl hb1 hs1 hB1 hf ?_
  clear hf hB1 hs1 hb1 w2 w1
  refine ol_r (r_move rfl) rfl ?_
  refine ol_r (r_extract rfl rfl) rfl ?_
  refine ol_r (r_extract rfl rfl) rfl ?_
  refine ol_r (r_assign rfl) rfl ?_
  refine ol_r (r_assign rfl) rfl ?_
  refine ol_nil (to_k0 (fun _ _ h => h) (hK3 _ _ _ ?_))
  clear hK3
  refine wp_seq' fun K4 hK4 => ?_
  refine wp_reg ?_
  refine ol_r (r_move rfl) rfl ?_
  refine ol_r (r_move rfl) rfl ?_
  refine ol_call rfl rfl cb57 rfl (fun w1 hb1 hs1 hB1 => ?_)
  refine Calls.mono (load_Power _ _ _ xs t _ (hl.at hb1 hB1)) ?_
  rintro e w2 ⟨r1, c1, ok1, hR1, rfl, hb2⟩
  refine After.below rfl hb1 hs1 hB1 hb2 ?_
  clear hb2 hB1 hs1 hb1 w2 w1
  refine ol_r (r_move rfl) rfl ?_
  refine ol_r (r_extract rfl rfl) rfl ?_
  refine ol_r (r_extract rfl rfl) rfl ?_
  refine ol_r (r_extract rfl rfl) rfl ?_
  refine ol_r (r_assign rfl) rfl ?_
  refine ol_r (r_assign rfl) rfl ?_
  refine ol_r (r_assign rfl) rfl ?_
  refine ol_nil (to_k0 (fun _ _ h => h) (hK4 _ _ _ ?_))
  clear hK4
  refine wp_seq' fun K5 hK5 => ?_
  refine wp_reg ?_
  refine ol_r (r_move rfl) rfl ?_
  refine ol_r (r_move rfl) rfl ?_
  refine ol_call rfl rfl cb58 rfl (fun w1 hb1 hs1 hB1 => ?_)
  refine Calls.mono (ref_Power _ _ _ xs t _ (hl.at hb1 hB1)) ?_
  rintro e w2 ⟨r1', c1', ok1', hR1', rfl, hb2⟩
  obtain ⟨rfl, rfl, rfl⟩ := hR1.unique hR1'
  refine After.below rfl hb1 hs1 hB1 hb2 ?_
  clear hb2 hB1 hs1 hb1 w2 w1
  refine ol_r (r_move rfl) rfl ?_
  refine ol_r (r_extract rfl rfl) rfl ?_
  refine ol_r (r_extract rfl rfl) rfl ?_
  refine ol_r (r_extract rfl rfl) rfl ?_
  refine ol_r (r_assign rfl) rfl ?_
  refine ol_r (r_assign rfl) rfl ?_
  refine ol_r (r_assign rfl) rfl ?_
  refine ol_nil (to_k0 (fun _ _ h => h) (hK5 _ _ _ ?_))
  clear hK5
  refine wp_seq' fun K6 hK6 => ?_
  refine wp_reg ?_
  refine ol_r (r_move rfl) rfl ?_
  refine ol_r (r_move rfl) rfl ?_
  refine ol_r (r_move rfl) rfl ?_
  refine ol_call rfl rfl cb59 rfl (fun w1 hb1 hs1 hB1 => ?_)
  refine Calls.mono (load_Pulse _ _ _ _ _ _ xs ps _ _ _ ws _ (hl.at hb1 hB1) (hp.at hb1 hB1) (hw.at hb1 hB1)) ?_
  rintro e w2 ⟨r2, e2, hR2, rfl, hb2⟩
  refine After.below rfl hb1 hs1 hB1 hb2 ?_
  clear hb2 hB1 hs1 hb1 w2 w1
  refine ol_r (r_move rfl) rfl ?_
  refine ol_r (r_extract rfl rfl) rfl ?_
  refine ol_r (r_extract rfl rfl) rfl ?_
  refine ol_r (r_assign rfl) rfl ?_
  refine ol_r (r_assign rfl) rfl ?_
  refine ol_nil (to_k0 (fun _ _ h => h) (hK6 _ _ _ ?_))
  clear hK6
  refine wp_seq' fun K7 hK7 => ?_
  refine wp_reg ?_
  refine ol_r (r_move rfl) rfl ?_
  refine ol_r (r_move rfl) rfl ?_
  refine ol_r (r_move rfl) rfl ?_
  refine ol_call rfl rfl cb60 rfl (fun w1 hb1 hs1 hB1 => ?_)
  refine Calls.mono (ref_Pulse _ _ _ _ _ _ xs ps _ _ _ ws _ (hl.at hb1 hB1) (hp.at hb1 hB1) (hw.at hb1 hB1)) ?_
  rintro e w2 ⟨r2', e2', hR2', rfl, hb2⟩
  obtain ⟨rfl, rfl⟩ := hR2.unique hR2'
  refine After.below rfl hb1 hs1 hB1 hb2 ?_
  clear hb2 hB1 hs1 hb1 w2 w1
  refine ol_r (r_move rfl) rfl ?_
  refine ol_r (r_extract rfl rfl) rfl ?_
  refine ol_r (r_extract rfl rfl) rfl ?_
  refine ol_r (r_assign rfl) rfl ?_
  refine ol_r (r_assign rfl) rfl ?_
  refine ol_nil (to_k0 (fun _ _ h => h) (hK7 _ _ _ ?_))
  clear hK7
  refine wp_seq' fun K8 hK8 => ?_
  refine wp_reg ?_
  refine ol_r (r_move rfl) rfl ?_
  refine ol_r (r_move rfl) rfl ?_
  refine ol_call rfl rfl cb20 rfl (fun w1 hb1 hs1 hB1 => Calls.mono (equal_int _ _ _ _ _ _ out out _ (Sat.rd hs1 (id := 26) rfl rfl) (Sat.rd hs1 (id := 32) rfl rfl)) ?_)
  rintro e w2 ⟨rfl, hb2⟩
  refine After.below rfl hb1 hs1 hB1 hb2 ?_
  clear hb2 hB1 hs1 hb1 w2 w1
  refine ol_r (r_move rfl) rfl ?_
  refine ol_split (d := 66) rfl (fun hs66 => ?_) (fun hs66 => ?_)
  · have phs66 := hs66; try simp only [decide_eq_true_eq, decide_eq_false_iff_not, Bool.not_eq_true', Bool.not_eq_false', Bool.not_true, Bool.not_false] at phs66
    refine ol_g rfl rfl hs66 ?_
    refine ol_r (r_move rfl) rfl ?_
    refine ol_g rfl rfl hs66 ?_
    refine ol_r (r_move rfl) rfl ?_
    refine ol_g rfl rfl hs66 ?_
    refine ol_r (r_eql rfl rfl) rfl ?_
    refine ol_r (r_pickT rfl hs66 rfl) rfl ?_
    refine ol_r (r_move rfl) rfl ?_
    refine ol_split (d := 71) rfl (fun hs71 => ?_) (fun hs71 => ?_)
    · have phs71 := hs71; try simp only [decide_eq_true_eq, decide_eq_false_iff_not, Bool.not_eq_true', Bool.not_eq_false', Bool.not_true, Bool.not_false] at phs71
      refine ol_g rfl rfl hs71 ?_
      refine ol_r (r_move rfl) rfl ?_
      refine ol_g rfl rfl hs71 ?_
      refine ol_r (r_move rfl) rfl ?_
      refine ol_g rfl rfl hs71 ?_
      refine ol_r (r_eql rfl rfl) rfl ?_
      refine ol_r (r_pickT rfl hs71 rfl) rfl ?_
      refine ol_r (r_move rfl) rfl ?_
      refine ol_split (d := 76) rfl (fun hs76 => ?_) (fun hs76 => ?_)
      · have phs76 := hs76; try simp only [decide_eq_true_eq, decide_eq_false_iff_not, Bool.not_eq_true', Bool.not_eq_false', Bool.not_true, Bool.not_false] at phs76
        refine ol_g rfl rfl hs76 ?_
        refine ol_r (r_move rfl) rfl ?_
        refine ol_g rfl rfl hs76 ?_
        refine ol_r (r_move rfl) rfl ?_
        refine ol_g rfl rfl hs76 ?_
        refine ol_r (r_beql rfl rfl (by kernel_rfl)) rfl ?_
        refine ol_r (r_pickT rfl hs76 rfl) rfl ?_
        refine ol_r (r_move rfl) rfl ?_
        refine ol_split (d := 81) rfl (fun hs81 => ?_) (fun hs81 => ?_)
        · have phs81 := hs81; try simp only [decide_eq_true_eq, decide_eq_false_iff_not, Bool.not_eq_true', Bool.not_eq_false', Bool.not_true, Bool.not_false] at phs81
          refine ol_g rfl rfl hs81 ?_
          refine ol_r (r_move rfl) rfl ?_
          refine ol_g rfl rfl hs81 ?_
          refine ol_r (r_move rfl) rfl ?_
          refine ol_g rfl rfl hs81 ?_
          refine ol_r (r_eql rfl rfl) rfl ?_
          refine ol_r (r_pickT rfl hs81 rfl) rfl ?_
          refine ol_r (r_move rfl) rfl ?_
          refine ol_split (d := 86) rfl (fun hs86 => ?_) (fun hs86 => ?_)
          · have phs86 := hs86; try simp only [decide_eq_true_eq, decide_eq_false_iff_not, Bool.not_eq_true', Bool.not_eq_false', Bool.not_true, Bool.not_false] at phs86
            refine ol_g rfl rfl hs86 ?_
            refine ol_r (r_move rfl) rfl ?_
            refine ol_g rfl rfl hs86 ?_
            refine ol_r (r_move rfl) rfl ?_
            refine ol_g rfl rfl hs86 ?_
            refine ol_r (r_eql rfl rfl) rfl ?_
            refine ol_r (r_pickT rfl hs86 rfl) rfl ?_
            refine ol_r (r_move rfl) rfl ?_
            refine ol_split (d := 91) rfl (fun hs91 => ?_) (fun hs91 => ?_)
            · have phs91 := hs91; try simp only [decide_eq_true_eq, decide_eq_false_iff_not, Bool.not_eq_true', Bool.not_eq_false', Bool.not_true, Bool.not_false] at phs91
              refine ol_g rfl rfl hs91 ?_
              refine ol_r (r_move rfl) rfl ?_
              refine ol_g rfl rfl hs91 ?_
              refine ol_r (r_move rfl) rfl ?_
              refine ol_g rfl rfl hs91 ?_
              refine ol_r (r_eql rfl rfl) rfl ?_
              refine ol_r (r_pickT rfl hs91 rfl) rfl ?_
              refine ol_r (r_move rfl) rfl ?_
              refine ol_split (d := 96) rfl (fun hs96 => ?_) (fun hs96 => ?_)
              · have phs96 := hs96; try simp only [decide_eq_true_eq, decide_eq_false_iff_not, Bool.not_eq_true', Bool.not_eq_false', Bool.not_true, Bool.not_false] at phs96
                refine ol_g rfl rfl hs96 ?_
                refine ol_call rfl rfl cb14 rfl (fun w1 hb1 hs1 hB1 => Calls.mono (load_told _) ?_)
                rintro e w2 ⟨rfl, hb2⟩
                refine After.below rfl hb1 hs1 hB1 hb2 ?_
                clear hb2 hB1 hs1 hb1 w2 w1
                refine ol_r (r_pickT rfl hs96 rfl) rfl ?_
                refine ol_r (r_assign rfl) rfl ?_
                refine ol_nil (to_k0 (fun _ _ h => h) (hK8 _ _ _ ?_))
                clear hK8
                refine hQ.ret (rvs1 (rv_t rfl)) (fun _ _ h => h) fun w hb hs hB hkd => ?_
                first
                  | exact ⟨rfl, hb⟩
                  | (exfalso; simp_all; done)
              · have phs96 := hs96; try simp only [decide_eq_true_eq, decide_eq_false_iff_not, Bool.not_eq_true', Bool.not_eq_false', Bool.not_true, Bool.not_false] at phs96
                refine ol_s rfl rfl hs96 rfl ?_
                refine ol_r (r_pickF rfl hs96 rfl) rfl ?_
                refine ol_r (r_assign rfl) rfl ?_
                refine ol_nil (to_k0 (fun _ _ h => h) (hK8 _ _ _ ?_))
                clear hK8
                refine hQ.ret (rvs1 (rv_t rfl)) (fun _ _ h => h) fun w hb hs hB hkd => ?_
                first
                  | exact ⟨rfl, hb⟩
                  | (exfalso; simp_all; done)
            · have phs91 := hs91; try simp only [decide_eq_true_eq, decide_eq_false_iff_not, Bool.not_eq_true', Bool.not_eq_false', Bool.not_true, Bool.not_false] at phs91
              refine ol_s rfl rfl hs91 rfl ?_
              refine ol_s rfl rfl hs91 rfl ?_
              refine ol_s rfl rfl hs91 rfl ?_
              refine ol_r (r_pickF rfl hs91 rfl) rfl ?_
              refine ol_r (r_move rfl) rfl ?_
              refine ol_s rfl rfl rfl rfl ?_
              refine ol_r (r_pickF rfl rfl rfl) rfl ?_
              refine ol_r (r_assign rfl) rfl ?_
              refine ol_nil (to_k0 (fun _ _ h => h) (hK8 _ _ _ ?_))
              clear hK8
              refine hQ.ret (rvs1 (rv_t rfl)) (fun _ _ h => h) fun w hb hs hB hkd => ?_
              first
                | exact ⟨rfl, hb⟩
                | (exfalso; simp_all; done)
          · have phs86 := hs86; try simp only [decide_eq_true_eq, decide_eq_false_iff_not, Bool.not_eq_true', Bool.not_eq_false', Bool.not_true, Bool.not_false] at phs86
            refine ol_s rfl rfl hs86 rfl ?_
            refine ol_s rfl rfl hs86 rfl ?_
            refine ol_s rfl rfl hs86 rfl ?_
            refine ol_r (r_pickF rfl hs86 rfl) rfl ?_
            refine ol_r (r_move rfl) rfl ?_
            refine ol_s rfl rfl rfl rfl ?_
            refine ol_s rfl rfl rfl rfl ?_
            refine ol_s rfl rfl rfl rfl ?_
            refine ol_r (r_pickF rfl rfl rfl) rfl ?_
            refine ol_r (r_move rfl) rfl ?_
            refine ol_s rfl rfl rfl rfl ?_
            refine ol_r (r_pickF rfl rfl rfl) rfl ?_
            refine ol_r (r_assign rfl) rfl ?_
            refine ol_nil (to_k0 (fun _ _ h => h) (hK8 _ _ _ ?_))
            clear hK8
            refine hQ.ret (rvs1 (rv_t rfl)) (fun _ _ h => h) fun w hb hs hB hkd => ?_
            first
              | exact ⟨rfl, hb⟩
              | (exfalso; simp_all; done)
        · have phs81 := hs81; try simp only [decide_eq_true_eq, decide_eq_false_iff_not, Bool.not_eq_true', Bool.not_eq_false', Bool.not_true, Bool.not_false] at phs81
          refine ol_s rfl rfl hs81 rfl ?_
          refine ol_s rfl rfl hs81 rfl ?_
          refine ol_s rfl rfl hs81 rfl ?_
          refine ol_r (r_pickF rfl hs81 rfl) rfl ?_
          refine ol_r (r_move rfl) rfl ?_
          refine ol_s rfl rfl rfl rfl ?_
          refine ol_s rfl rfl rfl rfl ?_
          refine ol_s rfl rfl rfl rfl ?_
          refine ol_r (r_pickF rfl rfl rfl) rfl ?_
          refine ol_r (r_move rfl) rfl ?_
          refine ol_s rfl rfl rfl rfl ?_
          refine ol_s rfl rfl rfl rfl ?_
          refine ol_s rfl rfl rfl rfl ?_
          refine ol_r (r_pickF rfl rfl rfl) rfl ?_
          refine ol_r (r_move rfl) rfl ?_
          refine ol_s rfl rfl rfl rfl ?_
          refine ol_r (r_pickF rfl rfl rfl) rfl ?_
          refine ol_r (r_assign rfl) rfl ?_
          refine ol_nil (to_k0 (fun _ _ h => h) (hK8 _ _ _ ?_))
          clear hK8
          refine hQ.ret (rvs1 (rv_t rfl)) (fun _ _ h => h) fun w hb hs hB hkd => ?_
          first
            | exact ⟨rfl, hb⟩
            | (exfalso; simp_all; done)
      · have phs76 := hs76; try simp only [decide_eq_true_eq, decide_eq_false_iff_not, Bool.not_eq_true', Bool.not_eq_false', Bool.not_true, Bool.not_false] at phs76
        refine ol_s rfl rfl hs76 rfl ?_
        refine ol_s rfl rfl hs76 rfl ?_
        refine ol_s rfl rfl hs76 rfl ?_
        refine ol_r (r_pickF rfl hs76 rfl) rfl ?_
        refine ol_r (r_move rfl) rfl ?_
        refine ol_s rfl rfl rfl rfl ?_
        refine ol_s rfl rfl rfl rfl ?_
        refine ol_s rfl rfl rfl rfl ?_
        refine ol_r (r_pickF rfl rfl rfl) rfl ?_
        refine ol_r (r_move rfl) rfl ?_
        refine ol_s rfl rfl rfl rfl ?_
        refine ol_s rfl rfl rfl rfl ?_
        refine ol_s rfl rfl rfl rfl ?_
        refine ol_r (r_pickF rfl rfl rfl) rfl ?_
        refine ol_r (r_move rfl) rfl ?_
        refine ol_s rfl rfl rfl rfl ?_
        refine ol_s rfl rfl rfl rfl ?_
        refine ol_s rfl rfl rfl rfl ?_
        refine ol_r (r_pickF rfl rfl rfl) rfl ?_
        refine ol_r (r_move rfl) rfl ?_
        refine ol_s rfl rfl rfl rfl ?_
        refine ol_r (r_pickF rfl rfl rfl) rfl ?_
        refine ol_r (r_assign rfl) rfl ?_
        refine ol_nil (to_k0 (fun _ _ h => h) (hK8 _ _ _ ?_))
        clear hK8
        refine hQ.ret (rvs1 (rv_t rfl)) (fun _ _ h => h) fun w hb hs hB hkd => ?_
        first
          | exact ⟨rfl, hb⟩
          | (exfalso; simp_all; done)
    · have phs71 := hs71; try simp only [decide_eq_true_eq, decide_eq_false_iff_not, Bool.not_eq_true', Bool.not_eq_false', Bool.not_true, Bool.not_false] at phs71
      refine ol_s rfl rfl hs71 rfl ?_
      refine ol_s rfl rfl hs71 rfl ?_
      refine ol_s rfl rfl hs71 rfl ?_
      refine ol_r (r_pickF rfl hs71 rfl) rfl ?_
      refine ol_r (r_move rfl) rfl ?_
      refine ol_s rfl rfl rfl rfl ?_
      refine ol_s rfl rfl rfl rfl ?_
      refine ol_s rfl rfl rfl rfl ?_
      refine ol_r (r_pickF rfl rfl rfl) rfl ?_
      refine ol_r (r_move rfl) rfl ?_
      refine ol_s rfl rfl rfl rfl ?_
      refine ol_s rfl rfl rfl rfl ?_
      refine ol_s rfl rfl rfl rfl ?_
      refine ol_r (r_pickF rfl rfl rfl) rfl ?_
      refine ol_r (r_move rfl) rfl ?_
      refine ol_s rfl rfl rfl rfl ?_
      refine ol_s rfl rfl rfl rfl ?_
      refine ol_s rfl rfl rfl rfl ?_
      refine ol_r (r_pickF rfl rfl rfl) rfl ?_
      refine ol_r (r_move rfl) rfl ?_
      refine ol_s rfl rfl rfl rfl ?_
      refine ol_s rfl rfl rfl rfl ?_
      refine ol_s rfl rfl rfl rfl ?_
      refine ol_r (r_pickF rfl rfl rfl) rfl ?_
      refine ol_r (r_move rfl) rfl ?_
      refine ol_s rfl rfl rfl rfl ?_
      refine ol_r (r_pickF rfl rfl rfl) rfl ?_
      refine ol_r (r_assign rfl) rfl ?_
      refine ol_nil (to_k0 (fun _ _ h => h) (hK8 _ _ _ ?_))
      clear hK8
      refine hQ.ret (rvs1 (rv_t rfl)) (fun _ _ h => h) fun w hb hs hB hkd => ?_
      first
        | exact ⟨rfl, hb⟩
        | (exfalso; simp_all; done)
  · have phs66 := hs66; try simp only [decide_eq_true_eq, decide_eq_false_iff_not, Bool.not_eq_true', Bool.not_eq_false', Bool.not_true, Bool.not_false] at phs66
    refine ol_s rfl rfl hs66 rfl ?_
    refine ol_s rfl rfl hs66 rfl ?_
    refine ol_s rfl rfl hs66 rfl ?_
    refine ol_r (r_pickF rfl hs66 rfl) rfl ?_
    refine ol_r (r_move rfl) rfl ?_
    refine ol_s rfl rfl rfl rfl ?_
    refine ol_s rfl rfl rfl rfl ?_
    refine ol_s rfl rfl rfl rfl ?_
    refine ol_r (r_pickF rfl rfl rfl) rfl ?_
    refine ol_r (r_move rfl) rfl ?_
    refine ol_s rfl rfl rfl rfl ?_
    refine ol_s rfl rfl rfl rfl ?_
    refine ol_s rfl rfl rfl rfl ?_
    refine ol_r (r_pickF rfl rfl rfl) rfl ?_
    refine ol_r (r_move rfl) rfl ?_
    refine ol_s rfl rfl rfl rfl ?_
    refine ol_s rfl rfl rfl rfl ?_
    refine ol_s rfl rfl rfl rfl ?_
    refine ol_r (r_pickF rfl rfl rfl) rfl ?_
    refine ol_r (r_move rfl) rfl ?_
    refine ol_s rfl rfl rfl rfl ?_
    refine ol_s rfl rfl rfl rfl ?_
    refine ol_s rfl rfl rfl rfl ?_
    refine ol_r (r_pickF rfl rfl rfl) rfl ?_
    refine ol_r (r_move rfl) rfl ?_
    refine ol_s rfl rfl rfl rfl ?_
    refine ol_s rfl rfl rfl rfl ?_
    refine ol_s rfl rfl rfl rfl ?_
    refine ol_r (r_pickF rfl rfl rfl) rfl ?_
    refine ol_r (r_move rfl) rfl ?_
    refine ol_s rfl rfl rfl rfl ?_
    refine ol_r (r_pickF rfl rfl rfl) rfl ?_
    refine ol_r (r_assign rfl) rfl ?_
    refine ol_nil (to_k0 (fun _ _ h => h) (hK8 _ _ _ ?_))
    clear hK8
    refine hQ.ret (rvs1 (rv_t rfl)) (fun _ _ h => h) fun w hb hs hB hkd => ?_
    first
      | exact ⟨rfl, hb⟩
      | (exfalso; simp_all; done)
end Go.Proofs.Ytamlldedmhkobaa
