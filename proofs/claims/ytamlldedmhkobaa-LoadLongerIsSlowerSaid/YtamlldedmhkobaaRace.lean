/-
  Races: program and reference.
-/
import Derived.Test.YtamlldedmhkobaaPredM
import Derived.Test.YtamlldedmhkobaaSearch
import Derived.Test.YtamlldedmhkobaaLoad2
import Derived.Test.YtamlldedmhkobaaHx3
namespace Go.Proofs.Ytamlldedmhkobaa
open Go Go.RowKit Hx
set_option linter.unusedVariables false
set_option linter.unusedSimpArgs false
set_option maxRecDepth 8000
def encRace : Enc RaceR := { size := 2, cells := fun x => [.int .i64 x.way, .int .i64 x.sec], val := fun x => .agg #[.int .i64 x.way, .int .i64 x.sec], len := fun _ => rfl, ones := fun _ u h => (by simp at h; rcases h with h | h <;> subst h <;> rfl), pos := by decide, vc := fun _ => rfl }
def mk_encRace (a b : Int) : RaceR := ⟨a, b⟩
theorem ty101 : Ty Try.prog 101 encRace := .inr ⟨ag101, fun _ => rfl⟩
theorem raceG_no {x : RaceR} (h : inB x.way 1000 10000000 = false ∨ inB x.sec 1 1000000 = false) : raceG x = false := by
  unfold raceG; rcases h with h | h <;> simp [h]
theorem raceG_yes {x : RaceR} (h : inB x.way 1000 10000000 = true) (h2 : inB x.sec 1 1000000 = true) : raceG x = true := by unfold raceG; rw [h, h2]; rfl
theorem raceBad_no {y x : RaceR} (h1 : ¬x.way ≤ y.way) (h2 : ¬x.sec ≤ y.sec) : raceBad y x = false := by unfold raceBad; rw [decide_eq_false h1, decide_eq_false h2]; rfl
theorem raceBad_yes {y x : RaceR} (h : x.way ≤ y.way ∨ x.sec ≤ y.sec) : raceBad y x = true := by unfold raceBad; rcases h with h | h <;> simp [h]
theorem load_CheckRaces (a : Option Addr) (n cap : Nat) (xs : List RaceR) (w : World) (hl : Rd encRace w.heap.size w a n cap xs) :
    Calls Try.prog 53 #[.slice a n cap] w fun e w' => e = .returned (.int .i64 (racesR xs)) ∧ Below w.heap.size w w' := by
  have hn := hl.len
  have hfit := hl.fit
  refine enterQ (N := 55) (C := fun _ => True) (H := []) (B := w.heap.size) (args := [_]) Try.func53 rfl rfl rfl (Nat.le_refl _) (Sat.nil _ _) fun Q hQ => ?_
  refine wp_seq' fun K1 hK1 => ?_
  refine wp_reg ?_
  refine ol_r (r_assign rfl) rfl ?_
  refine ol_nil (to_k0 (fun _ _ h => h) (hK1 _ _ _ _ _ ?_))
  clear hK1
  refine wp_seq' fun K2 hK2 => ?_
  refine wp_block' ?_
  refine wp_seq' fun K3 hK3 => ?_
  refine wp_reg ?_
  refine ol_r (r_move rfl) rfl ?_
  refine ol_r (r_len rfl sl71) rfl ?_
  refine ol_r (r_eql rfl rfl) rfl ?_
  refine ol_r (r_assign rfl) rfl ?_
  refine ol_nil (to_k0 (fun _ _ h => h) (hK3 _ _ _ _ _ ?_))
  clear hK3
  first | refine wp_condD rfl (fun hc5 => ?_) (fun hc5 => ?_) | refine wp_condN rfl (fun hc5 => ?_) (fun hc5 => ?_) | refine wp_condNB rfl (fun hc5 => ?_) (fun hc5 => ?_) | refine wp_cond' rfl (fun hc5 => ?_) (fun hc5 => ?_)
  ·refine wp_seq' fun K4 hK4 => ?_
   refine wp_reg ?_
   refine ol_r (r_assign rfl) rfl ?_
   refine ol_nil (to_k0 (fun _ _ h => h) (hK4 _ _ _ _ _ ?_))
   clear hK4
   refine hQ.ret (rvs1 (rv_t rfl)) (fun _ _ h => h) fun w hb hs hB hkd => ?_
   first
     | exact ⟨by unfold racesR; rw [if_pos (by omega)], hb⟩
     | exact ⟨by unfold racesR; rw [if_neg (by omega), if_pos (by omega)], hb⟩
     | exact ⟨by rw [chkG_end hP (by omega)], hb⟩
     | exact ⟨by rw [chkG_bad hP hx18 (raceG_no (.inl (by simpa using hs24)))], hb⟩
     | exact ⟨by rw [chkG_bad hP hx18 (raceG_no (.inr (by simpa using hc29)))], hb⟩
     | exact ⟨by rw [chkG_ord hP hx18 (raceG_yes (by simpa using hs24) (by simpa using hc29)) phs32 hx38 (raceBad_yes (.inl phs42))], hb⟩
     | exact ⟨by rw [chkG_ord hP hx18 (raceG_yes (by simpa using hs24) (by simpa using hc29)) phs32 hx48 (raceBad_yes (.inr hc53))], hb⟩
  ·refine wp_seq' fun K5 hK5 => ?_
   refine wp_reg ?_
   refine ol_r (r_move rfl) rfl ?_
   refine ol_r (r_len rfl sl71) rfl ?_
   refine ol_r (r_gtr rfl rfl) rfl ?_
   refine ol_r (r_assign rfl) rfl ?_
   refine ol_nil (to_k0 (fun _ _ h => h) (hK5 _ _ _ _ _ ?_))
   clear hK5
   first | refine wp_condD rfl (fun hc9 => ?_) (fun hc9 => ?_) | refine wp_condN rfl (fun hc9 => ?_) (fun hc9 => ?_) | refine wp_condNB rfl (fun hc9 => ?_) (fun hc9 => ?_) | refine wp_cond' rfl (fun hc9 => ?_) (fun hc9 => ?_)
   ·refine wp_seq' fun K6 hK6 => ?_
    refine wp_reg ?_
    refine ol_r (r_assign rfl) rfl ?_
    refine ol_nil (to_k0 (fun _ _ h => h) (hK6 _ _ _ _ _ ?_))
    clear hK6
    refine hQ.ret (rvs1 (rv_t rfl)) (fun _ _ h => h) fun w hb hs hB hkd => ?_
    first
      | exact ⟨by unfold racesR; rw [if_pos (by omega)], hb⟩
      | exact ⟨by unfold racesR; rw [if_neg (by omega), if_pos (by omega)], hb⟩
      | exact ⟨by rw [chkG_end hP (by omega)], hb⟩
      | exact ⟨by rw [chkG_bad hP hx18 (raceG_no (.inl (by simpa using hs24)))], hb⟩
      | exact ⟨by rw [chkG_bad hP hx18 (raceG_no (.inr (by simpa using hc29)))], hb⟩
      | exact ⟨by rw [chkG_ord hP hx18 (raceG_yes (by simpa using hs24) (by simpa using hc29)) phs32 hx38 (raceBad_yes (.inl phs42))], hb⟩
      | exact ⟨by rw [chkG_ord hP hx18 (raceG_yes (by simpa using hs24) (by simpa using hc29)) phs32 hx48 (raceBad_yes (.inr hc53))], hb⟩
   ·refine wp_skip' (to_k0 (fun _ _ h => h) (hK2 _ _ _ _ _ ?_))
    clear hK2
    refine wp_seq' fun K7 hK7 => ?_
    refine wp_seq' fun K8 hK8 => ?_
    refine wp_reg ?_
    refine ol_r (r_move rfl) rfl ?_
    refine ol_r (r_len rfl sl71) rfl ?_
    refine ol_r (r_move rfl) rfl ?_
    refine ol_nil (to_k0 (fun _ _ h => h) (hK8 _ _ _ _ _ ?_))
    clear hK8
    refine wp_block' ?_
    apply wp_loopM (σ := Nat) (fun s => s ≤ n ∧ racesR xs = chkG raceG raceBad (ahead xs s) (xs.drop s)) (fun s => [(15, .int .i64 s)]) [(0, _), (13, _), (14, _)] (fun s => []) [] (fun s => n - s) (0)
    ·try dsimp only
     exact ⟨by omega, by unfold racesR; rw [if_neg (by omega), if_neg (by omega)]; rfl⟩
    ·exact (sub_cons rfl sub_nil)
    ·exact (sub_cons rfl (sub_cons rfl (sub_cons rfl sub_nil)))
    ·exact subH_nil
    ·exact subH_nil
    ·rintro k ⟨hk, hP⟩
     intro K9 hK9
     refine wp_seq' fun K10 hK10 => ?_
     refine wp_reg ?_
     refine ol_r (r_lss rfl rfl) rfl ?_
     refine ol_nil (to_k0 (fun _ _ h => h) (hK10 _ _ _ _ _ ?_))
     clear hK10
     refine wp_seq' fun K11 hK11 => ?_
     first | refine wp_condD rfl (fun hc16 => ?_) (fun hc16 => ?_) | refine wp_condN rfl (fun hc16 => ?_) (fun hc16 => ?_) | refine wp_condNB rfl (fun hc16 => ?_) (fun hc16 => ?_) | refine wp_cond' rfl (fun hc16 => ?_) (fun hc16 => ?_)
     ·refine wp_skip' (to_k0 (fun _ _ h => h) (hK11 _ _ _ _ _ ?_))
      clear hK11
      refine wp_seq' fun K12 hK12 => ?_
      refine wp_block' ?_
      refine wp_seq' fun K13 hK13 => ?_
      refine wp_reg ?_
      refine ol_r (r_move rfl) rfl ?_
      refine ol_ixr hl rfl rfl sl71 (by omega) rfl fun x18 hx18 => ?_
      try simp only [Int.toNat_natCast] at hx18
      refine ol_r (r_ldw rfl (fun w1 hb1 hs1 hB1 => Rd.loads hl ty101 hx18 hb1)) rfl ?_
      refine ol_alloc 4 z101 rfl fun b4 => ?_
      refine ol_r (r_assign rfl) rfl ?_
      refine ol_store (id := 4) rfl rfl rfl rfl sz101 rfl rfl (by first | decide | exact Nat.zero_lt_succ _ | simp) ?_
      refine ol_nil (to_k0 (fun _ _ h => h) (hK13 _ _ _ _ _ ?_))
      clear hK13
      refine wp_seq' fun K14 hK14 => ?_
      refine wp_seq' fun K15 hK15 => ?_
      refine wp_reg ?_
      refine ol_r (r_fa (o' := 0) rfl fl101_0 rfl) rfl ?_
      refine ol_r (r_ld (id := 4) rfl rfl rfl sc3) rfl ?_
      refine ol_call rfl rfl cb67 rfl (fun w1 hb1 hs1 hB1 => Calls.mono (load_in _ _ _ _) ?_)
      rintro e w2 ⟨rfl, hb2⟩
      refine After.below rfl hb1 hs1 hB1 hb2 ?_
      clear hb2 hB1 hs1 hb1 w2 w1
      refine ol_r (r_not rfl) rfl ?_
      refine ol_r (r_move rfl) rfl ?_
      refine ol_split (d := 24) rfl (fun hs24 => ?_) (fun hs24 => ?_)
      ·have phs24 := hs24; try simp only [decide_eq_true_eq, decide_eq_false_iff_not, Bool.not_eq_true', Bool.not_eq_false', Bool.not_true, Bool.not_false] at phs24
       refine ol_s rfl rfl hs24 rfl ?_
       refine ol_s rfl rfl hs24 rfl ?_
       refine ol_s rfl rfl hs24 rfl ?_
       refine ol_s rfl rfl hs24 rfl ?_
       refine ol_r (r_pickT rfl hs24 rfl) rfl ?_
       refine ol_nil (to_k0 (fun _ _ h => h) (hK15 _ _ _ _ _ ?_))
       clear hK15
       refine wp_condT rfl ?_
       refine wp_seq' fun K16 hK16 => ?_
       refine wp_reg ?_
       refine ol_r (r_assign rfl) rfl ?_
       refine ol_nil (to_k0 (fun _ _ h => h) (hK16 _ _ _ _ _ ?_))
       clear hK16
       refine hQ.ret (rvs1 (rv_t rfl)) (fun _ _ h => h) fun w hb hs hB hkd => ?_
       first
         | exact ⟨by unfold racesR; rw [if_pos (by omega)], hb⟩
         | exact ⟨by unfold racesR; rw [if_neg (by omega), if_pos (by omega)], hb⟩
         | exact ⟨by rw [chkG_end hP (by omega)], hb⟩
         | exact ⟨by rw [chkG_bad hP hx18 (raceG_no (.inl (by simpa using hs24)))], hb⟩
         | exact ⟨by rw [chkG_bad hP hx18 (raceG_no (.inr (by simpa using hc29)))], hb⟩
         | exact ⟨by rw [chkG_ord hP hx18 (raceG_yes (by simpa using hs24) (by simpa using hc29)) phs32 hx38 (raceBad_yes (.inl phs42))], hb⟩
         | exact ⟨by rw [chkG_ord hP hx18 (raceG_yes (by simpa using hs24) (by simpa using hc29)) phs32 hx48 (raceBad_yes (.inr hc53))], hb⟩
      ·have phs24 := hs24; try simp only [decide_eq_true_eq, decide_eq_false_iff_not, Bool.not_eq_true', Bool.not_eq_false', Bool.not_true, Bool.not_false] at phs24
       refine ol_g rfl rfl hs24 ?_
       refine ol_r (r_fa (o' := 1) rfl fl101_1 rfl) rfl ?_
       refine ol_g rfl rfl hs24 ?_
       refine ol_r (r_ld (id := 4) rfl rfl rfl sc3) rfl ?_
       refine ol_g rfl rfl hs24 ?_
       refine ol_call rfl rfl cb67 rfl (fun w1 hb1 hs1 hB1 => Calls.mono (load_in _ _ _ _) ?_)
       rintro e w2 ⟨rfl, hb2⟩
       refine After.below rfl hb1 hs1 hB1 hb2 ?_
       clear hb2 hB1 hs1 hb1 w2 w1
       refine ol_g rfl rfl hs24 ?_
       refine ol_r (r_not rfl) rfl ?_
       refine ol_r (r_pickF rfl hs24 rfl) rfl ?_
       refine ol_nil (to_k0 (fun _ _ h => h) (hK15 _ _ _ _ _ ?_))
       clear hK15
       first | refine wp_condD rfl (fun hc29 => ?_) (fun hc29 => ?_) | refine wp_condN rfl (fun hc29 => ?_) (fun hc29 => ?_) | refine wp_condNB rfl (fun hc29 => ?_) (fun hc29 => ?_) | refine wp_cond' rfl (fun hc29 => ?_) (fun hc29 => ?_)
       ·refine wp_seq' fun K17 hK17 => ?_
        refine wp_reg ?_
        refine ol_r (r_assign rfl) rfl ?_
        refine ol_nil (to_k0 (fun _ _ h => h) (hK17 _ _ _ _ _ ?_))
        clear hK17
        refine hQ.ret (rvs1 (rv_t rfl)) (fun _ _ h => h) fun w hb hs hB hkd => ?_
        first
          | exact ⟨by unfold racesR; rw [if_pos (by omega)], hb⟩
          | exact ⟨by unfold racesR; rw [if_neg (by omega), if_pos (by omega)], hb⟩
          | exact ⟨by rw [chkG_end hP (by omega)], hb⟩
          | exact ⟨by rw [chkG_bad hP hx18 (raceG_no (.inl (by simpa using hs24)))], hb⟩
          | exact ⟨by rw [chkG_bad hP hx18 (raceG_no (.inr (by simpa using hc29)))], hb⟩
          | exact ⟨by rw [chkG_ord hP hx18 (raceG_yes (by simpa using hs24) (by simpa using hc29)) phs32 hx38 (raceBad_yes (.inl phs42))], hb⟩
          | exact ⟨by rw [chkG_ord hP hx18 (raceG_yes (by simpa using hs24) (by simpa using hc29)) phs32 hx48 (raceBad_yes (.inr hc53))], hb⟩
       ·refine wp_skip' (to_k0 (fun _ _ h => h) (hK14 _ _ _ _ _ ?_))
        clear hK14
        refine wp_seq' fun K18 hK18 => ?_
        refine wp_regq (by kernel_rfl) (by kernel_rfl) ?_
        refine ql_r (r_move rfl) rfl ?_
        refine ql_r (r_gtr rfl rfl) rfl ?_
        refine ql_r (r_move rfl) rfl ?_
        refine ql_split (d := 32) rfl (fun hs32 => ?_) (fun hs32 => ?_)
        ·have phs32 := hs32; try simp only [decide_eq_true_eq, decide_eq_false_iff_not, Bool.not_eq_true', Bool.not_eq_false', Bool.not_true, Bool.not_false] at phs32
         refine ql_g rfl rfl hs32 ?_
         refine ql_r (r_fa (o' := 0) rfl fl101_0 rfl) rfl ?_
         refine ql_g rfl rfl hs32 ?_
         refine ql_r (r_ld (id := 4) rfl rfl rfl sc3) rfl ?_
         refine ql_g rfl rfl hs32 ?_
         refine ql_r (r_move rfl) rfl ?_
         refine ql_g rfl rfl hs32 ?_
         refine ql_r (r_move rfl) rfl ?_
         refine ql_g rfl rfl hs32 ?_
         refine ql_r (r_sub rfl rfl (by omega)) rfl ?_
         refine ql_g rfl rfl hs32 ?_
         refine ql_ixr hl rfl rfl sl71 (by omega) rfl fun x38 hx38 => ?_
         try simp only [Int.toNat_natCast] at hx38
         refine ql_g rfl rfl hs32 ?_
         refine ql_r (r_faw rfl (ix_some hl (by omega)) fl101_0) rfl ?_
         refine ql_g rfl rfl hs32 ?_
         refine ql_r (r_ldw rfl (fun w1 hb1 hs1 hB1 => Rd.loadsF (o := 0) hl sc3 hx38 hb1 rfl)) rfl ?_
         refine ql_g rfl rfl hs32 ?_
         refine ql_r (r_leq rfl rfl) rfl ?_
         refine ql_g rfl rfl hs32 ?_
         refine ql_r (r_move rfl) rfl ?_
         refine ql_split (d := 42) rfl (fun hs42 => ?_) (fun hs42 => ?_)
         ·have phs42 := hs42; try simp only [decide_eq_true_eq, decide_eq_false_iff_not, Bool.not_eq_true', Bool.not_eq_false', Bool.not_true, Bool.not_false] at phs42
          refine ql_s rfl rfl hs42 rfl ?_
          refine ql_s rfl rfl hs42 rfl ?_
          refine ql_s rfl rfl hs42 rfl ?_
          refine ql_s rfl rfl hs42 rfl ?_
          refine ql_s rfl rfl hs42 rfl ?_
          refine ql_s rfl rfl hs42 rfl ?_
          refine ql_s rfl rfl hs42 rfl ?_
          refine ql_s rfl rfl hs42 rfl ?_
          refine ql_s rfl rfl hs42 rfl ?_
          refine ql_g rfl rfl hs32 ?_
          refine ql_r (r_pickT rfl hs42 rfl) rfl ?_
          refine ql_r (r_pickT rfl hs32 rfl) rfl ?_
          refine ql_nil (to_k0 (fun _ _ h => h) (hK18 _ _ _ _ _ ?_))
          clear hK18
          refine wp_condT rfl ?_
          refine wp_seq' fun K19 hK19 => ?_
          refine wp_reg ?_
          refine ol_r (r_assign rfl) rfl ?_
          refine ol_nil (to_k0 (fun _ _ h => h) (hK19 _ _ _ _ _ ?_))
          clear hK19
          refine hQ.ret (rvs1 (rv_t rfl)) (fun _ _ h => h) fun w hb hs hB hkd => ?_
          first
            | exact ⟨by unfold racesR; rw [if_pos (by omega)], hb⟩
            | exact ⟨by unfold racesR; rw [if_neg (by omega), if_pos (by omega)], hb⟩
            | exact ⟨by rw [chkG_end hP (by omega)], hb⟩
            | exact ⟨by rw [chkG_bad hP hx18 (raceG_no (.inl (by simpa using hs24)))], hb⟩
            | exact ⟨by rw [chkG_bad hP hx18 (raceG_no (.inr (by simpa using hc29)))], hb⟩
            | exact ⟨by rw [chkG_ord hP hx18 (raceG_yes (by simpa using hs24) (by simpa using hc29)) phs32 hx38 (raceBad_yes (.inl phs42))], hb⟩
            | exact ⟨by rw [chkG_ord hP hx18 (raceG_yes (by simpa using hs24) (by simpa using hc29)) phs32 hx48 (raceBad_yes (.inr hc53))], hb⟩
         ·have phs42 := hs42; try simp only [decide_eq_true_eq, decide_eq_false_iff_not, Bool.not_eq_true', Bool.not_eq_false', Bool.not_true, Bool.not_false] at phs42
          refine ql_g rfl rfl hs42 ?_
          refine ql_r (r_fa (o' := 1) rfl fl101_1 rfl) rfl ?_
          refine ql_g rfl rfl hs42 ?_
          refine ql_r (r_ld (id := 4) rfl rfl rfl sc3) rfl ?_
          refine ql_g rfl rfl hs42 ?_
          refine ql_r (r_move rfl) rfl ?_
          refine ql_g rfl rfl hs42 ?_
          refine ql_r (r_move rfl) rfl ?_
          refine ql_g rfl rfl hs42 ?_
          refine ql_r (r_sub rfl rfl (by omega)) rfl ?_
          refine ql_g rfl rfl hs42 ?_
          refine ql_ixr hl rfl rfl sl71 (by omega) rfl fun x48 hx48 => ?_
          try simp only [Int.toNat_natCast] at hx48
          refine ql_g rfl rfl hs42 ?_
          refine ql_r (r_faw rfl (ix_some hl (by omega)) fl101_1) rfl ?_
          refine ql_g rfl rfl hs42 ?_
          refine ql_r (r_ldw rfl (fun w1 hb1 hs1 hB1 => Rd.loadsF (o := 1) hl sc3 hx48 hb1 rfl)) rfl ?_
          refine ql_g rfl rfl hs42 ?_
          refine ql_r (r_leq rfl rfl) rfl ?_
          refine ql_g rfl rfl hs32 ?_
          refine ql_r (r_pickF rfl hs42 rfl) rfl ?_
          refine ql_r (r_pickT rfl hs32 rfl) rfl ?_
          refine ql_nil (to_k0 (fun _ _ h => h) (hK18 _ _ _ _ _ ?_))
          clear hK18
          first | refine wp_condD rfl (fun hc53 => ?_) (fun hc53 => ?_) | refine wp_condN rfl (fun hc53 => ?_) (fun hc53 => ?_) | refine wp_condNB rfl (fun hc53 => ?_) (fun hc53 => ?_) | refine wp_cond' rfl (fun hc53 => ?_) (fun hc53 => ?_)
          ·refine wp_seq' fun K20 hK20 => ?_
           refine wp_reg ?_
           refine ol_r (r_assign rfl) rfl ?_
           refine ol_nil (to_k0 (fun _ _ h => h) (hK20 _ _ _ _ _ ?_))
           clear hK20
           refine hQ.ret (rvs1 (rv_t rfl)) (fun _ _ h => h) fun w hb hs hB hkd => ?_
           first
             | exact ⟨by unfold racesR; rw [if_pos (by omega)], hb⟩
             | exact ⟨by unfold racesR; rw [if_neg (by omega), if_pos (by omega)], hb⟩
             | exact ⟨by rw [chkG_end hP (by omega)], hb⟩
             | exact ⟨by rw [chkG_bad hP hx18 (raceG_no (.inl (by simpa using hs24)))], hb⟩
             | exact ⟨by rw [chkG_bad hP hx18 (raceG_no (.inr (by simpa using hc29)))], hb⟩
             | exact ⟨by rw [chkG_ord hP hx18 (raceG_yes (by simpa using hs24) (by simpa using hc29)) phs32 hx38 (raceBad_yes (.inl phs42))], hb⟩
             | exact ⟨by rw [chkG_ord hP hx18 (raceG_yes (by simpa using hs24) (by simpa using hc29)) phs32 hx48 (raceBad_yes (.inr hc53))], hb⟩
          ·refine wp_skip' (to_k0 (fun _ _ h => h) (hK12 _ _ _ _ _ ?_))
           clear hK12
           refine wp_reg ?_
           refine ol_r (r_add rfl rfl (by omega)) rfl ?_
           refine ol_r (r_move rfl) rfl ?_
           refine ol_nil (to_k0 (fun _ _ h => h) (hK9 (k + 1) _ _ ?_ ?_ (sub_cons rfl sub_nil) (sub_cons rfl (sub_cons rfl (sub_cons rfl sub_nil))) (by exact subH_nil) subH_nil))
           ·try dsimp only
            have hq : raceG x18 = true := raceG_yes (by simpa using hs24) (by simpa using hc29)
            refine ⟨by omega, ?_⟩
            first
              | exact chkG_next0 hP hx18 hq phs32
              | (have h38 : x48 = x38 := by rw [hx38] at hx48; cases hx48; rfl
                 subst h38
                 exact chkG_next hP hx18 hq phs32 hx38 (raceBad_no phs42 hc53))
           ·try dsimp only
            omega
        ·have phs32 := hs32; try simp only [decide_eq_true_eq, decide_eq_false_iff_not, Bool.not_eq_true', Bool.not_eq_false', Bool.not_true, Bool.not_false] at phs32
         refine ql_s rfl rfl hs32 rfl ?_
         refine ql_s rfl rfl hs32 rfl ?_
         refine ql_s rfl rfl hs32 rfl ?_
         refine ql_s rfl rfl hs32 rfl ?_
         refine ql_s rfl rfl hs32 rfl ?_
         refine ql_s rfl rfl hs32 rfl ?_
         refine ql_s rfl rfl hs32 rfl ?_
         refine ql_s rfl rfl hs32 rfl ?_
         refine ql_s rfl rfl hs32 rfl ?_
         refine ql_s rfl rfl hs32 rfl ?_
         refine ql_u rfl rfl rfl ?_
         refine ql_u rfl rfl rfl ?_
         refine ql_u rfl rfl rfl ?_
         refine ql_u rfl rfl rfl ?_
         refine ql_u rfl rfl rfl ?_
         refine ql_u rfl rfl rfl ?_
         refine ql_u rfl rfl rfl ?_
         refine ql_u rfl rfl rfl ?_
         refine ql_u rfl rfl rfl ?_
         refine ql_s rfl rfl hs32 rfl ?_
         refine ql_r (r_pickF rfl hs32 rfl) rfl ?_
         refine ql_nil (to_k0 (fun _ _ h => h) (hK18 _ _ _ _ _ ?_))
         clear hK18
         refine wp_condF rfl ?_
         refine wp_skip' (to_k0 (fun _ _ h => h) (hK12 _ _ _ _ _ ?_))
         clear hK12
         refine wp_reg ?_
         refine ol_r (r_add rfl rfl (by omega)) rfl ?_
         refine ol_r (r_move rfl) rfl ?_
         refine ol_nil (to_k0 (fun _ _ h => h) (hK9 (k + 1) _ _ ?_ ?_ (sub_cons rfl sub_nil) (sub_cons rfl (sub_cons rfl (sub_cons rfl sub_nil))) (by exact subH_nil) subH_nil))
         ·try dsimp only
          have hq : raceG x18 = true := raceG_yes (by simpa using hs24) (by simpa using hc29)
          refine ⟨by omega, ?_⟩
          first
            | exact chkG_next0 hP hx18 hq phs32
            | (have h38 : x48 = x38 := by rw [hx38] at hx48; cases hx48; rfl
               subst h38
               exact chkG_next hP hx18 hq phs32 hx38 (raceBad_no phs42 hc53))
         ·try dsimp only
          omega
     ·refine wp_exit' (to_k0 (fun _ _ h => h) (hK7 _ _ _ _ _ ?_))
      clear hK7
      refine wp_seq' fun K21 hK21 => ?_
      refine wp_reg ?_
      refine ol_r (r_assign rfl) rfl ?_
      refine ol_nil (to_k0 (fun _ _ h => h) (hK21 _ _ _ _ _ ?_))
      clear hK21
      refine hQ.ret (rvs1 (rv_t rfl)) (fun _ _ h => h) fun w hb hs hB hkd => ?_
      first
        | exact ⟨by unfold racesR; rw [if_pos (by omega)], hb⟩
        | exact ⟨by unfold racesR; rw [if_neg (by omega), if_pos (by omega)], hb⟩
        | exact ⟨by rw [chkG_end hP (by omega)], hb⟩
        | exact ⟨by rw [chkG_bad hP hx18 (raceG_no (.inl (by simpa using hs24)))], hb⟩
        | exact ⟨by rw [chkG_bad hP hx18 (raceG_no (.inr (by simpa using hc29)))], hb⟩
        | exact ⟨by rw [chkG_ord hP hx18 (raceG_yes (by simpa using hs24) (by simpa using hc29)) phs32 hx38 (raceBad_yes (.inl phs42))], hb⟩
        | exact ⟨by rw [chkG_ord hP hx18 (raceG_yes (by simpa using hs24) (by simpa using hc29)) phs32 hx48 (raceBad_yes (.inr hc53))], hb⟩
theorem ref_CheckRaces (a : Option Addr) (n cap : Nat) (xs : List RaceR) (w : World) (hl : Rd encRace w.heap.size w a n cap xs) :
    Calls Try.prog 54 #[.slice a n cap] w fun e w' => e = .returned (.int .i64 (racesR xs)) ∧ Below w.heap.size w w' := by
  have hn := hl.len
  have hfit := hl.fit
  refine enterQ (N := 51) (C := fun _ => True) (H := []) (B := w.heap.size) (args := [_]) Try.func54 rfl rfl rfl (Nat.le_refl _) (Sat.nil _ _) fun Q hQ => ?_
  refine wp_seq' fun K1 hK1 => ?_
  refine wp_reg ?_
  refine ol_r (r_assign rfl) rfl ?_
  refine ol_nil (to_k0 (fun _ _ h => h) (hK1 _ _ _ _ _ ?_))
  clear hK1
  refine wp_seq' fun K2 hK2 => ?_
  refine wp_seq' fun K3 hK3 => ?_
  refine wp_reg ?_
  refine ol_r (r_move rfl) rfl ?_
  refine ol_r (r_len rfl sl71) rfl ?_
  refine ol_r (r_eql rfl rfl) rfl ?_
  refine ol_nil (to_k0 (fun _ _ h => h) (hK3 _ _ _ _ _ ?_))
  clear hK3
  first | refine wp_condD rfl (fun hc7 => ?_) (fun hc7 => ?_) | refine wp_condN rfl (fun hc7 => ?_) (fun hc7 => ?_) | refine wp_condNB rfl (fun hc7 => ?_) (fun hc7 => ?_) | refine wp_cond' rfl (fun hc7 => ?_) (fun hc7 => ?_)
  ·refine wp_seq' fun K4 hK4 => ?_
   refine wp_reg ?_
   refine ol_r (r_assign rfl) rfl ?_
   refine ol_nil (to_k0 (fun _ _ h => h) (hK4 _ _ _ _ _ ?_))
   clear hK4
   refine hQ.ret (rvs1 (rv_t rfl)) (fun _ _ h => h) fun w hb hs hB hkd => ?_
   first
     | exact ⟨by unfold racesR; rw [if_pos (by omega)], hb⟩
     | exact ⟨by unfold racesR; rw [if_neg (by omega), if_pos (by omega)], hb⟩
     | exact ⟨by rw [chkG_end hP (by omega)], hb⟩
     | exact ⟨by rw [chkG_bad hP hx16 (raceG_no (.inl (by simpa using hs21)))], hb⟩
     | exact ⟨by rw [chkG_bad hP hx16 (raceG_no (.inr (by simpa using hc25)))], hb⟩
     | exact ⟨by rw [chkG_ord hP hx16 (raceG_yes (by simpa using hs21) (by simpa using hc25)) phs28 hx34 (raceBad_yes (.inl phs38))], hb⟩
     | exact ⟨by rw [chkG_ord hP hx16 (raceG_yes (by simpa using hs21) (by simpa using hc25)) phs28 hx44 (raceBad_yes (.inr hc49))], hb⟩
  ·refine wp_skip' (to_k0 (fun _ _ h => h) (hK2 _ _ _ _ _ ?_))
   clear hK2
   refine wp_seq' fun K5 hK5 => ?_
   refine wp_seq' fun K6 hK6 => ?_
   refine wp_reg ?_
   refine ol_r (r_move rfl) rfl ?_
   refine ol_r (r_len rfl sl71) rfl ?_
   refine ol_r (r_gtr rfl rfl) rfl ?_
   refine ol_nil (to_k0 (fun _ _ h => h) (hK6 _ _ _ _ _ ?_))
   clear hK6
   first | refine wp_condD rfl (fun hc10 => ?_) (fun hc10 => ?_) | refine wp_condN rfl (fun hc10 => ?_) (fun hc10 => ?_) | refine wp_condNB rfl (fun hc10 => ?_) (fun hc10 => ?_) | refine wp_cond' rfl (fun hc10 => ?_) (fun hc10 => ?_)
   ·refine wp_seq' fun K7 hK7 => ?_
    refine wp_reg ?_
    refine ol_r (r_assign rfl) rfl ?_
    refine ol_nil (to_k0 (fun _ _ h => h) (hK7 _ _ _ _ _ ?_))
    clear hK7
    refine hQ.ret (rvs1 (rv_t rfl)) (fun _ _ h => h) fun w hb hs hB hkd => ?_
    first
      | exact ⟨by unfold racesR; rw [if_pos (by omega)], hb⟩
      | exact ⟨by unfold racesR; rw [if_neg (by omega), if_pos (by omega)], hb⟩
      | exact ⟨by rw [chkG_end hP (by omega)], hb⟩
      | exact ⟨by rw [chkG_bad hP hx16 (raceG_no (.inl (by simpa using hs21)))], hb⟩
      | exact ⟨by rw [chkG_bad hP hx16 (raceG_no (.inr (by simpa using hc25)))], hb⟩
      | exact ⟨by rw [chkG_ord hP hx16 (raceG_yes (by simpa using hs21) (by simpa using hc25)) phs28 hx34 (raceBad_yes (.inl phs38))], hb⟩
      | exact ⟨by rw [chkG_ord hP hx16 (raceG_yes (by simpa using hs21) (by simpa using hc25)) phs28 hx44 (raceBad_yes (.inr hc49))], hb⟩
   ·refine wp_skip' (to_k0 (fun _ _ h => h) (hK5 _ _ _ _ _ ?_))
    clear hK5
    refine wp_seq' fun K8 hK8 => ?_
    refine wp_seq' fun K9 hK9 => ?_
    refine wp_reg ?_
    refine ol_r (r_move rfl) rfl ?_
    refine ol_r (r_len rfl sl71) rfl ?_
    refine ol_r (r_move rfl) rfl ?_
    refine ol_nil (to_k0 (fun _ _ h => h) (hK9 _ _ _ _ _ ?_))
    clear hK9
    refine wp_block' ?_
    apply wp_loopM (σ := Nat) (fun s => s ≤ n ∧ racesR xs = chkG raceG raceBad (ahead xs s) (xs.drop s)) (fun s => [(13, .int .i64 s)]) [(0, _), (11, _), (12, _)] (fun s => []) [] (fun s => n - s) (0)
    ·try dsimp only
     exact ⟨by omega, by unfold racesR; rw [if_neg (by omega), if_neg (by omega)]; rfl⟩
    ·exact (sub_cons rfl sub_nil)
    ·exact (sub_cons rfl (sub_cons rfl (sub_cons rfl sub_nil)))
    ·exact subH_nil
    ·exact subH_nil
    ·rintro k ⟨hk, hP⟩
     intro K10 hK10
     refine wp_seq' fun K11 hK11 => ?_
     refine wp_reg ?_
     refine ol_r (r_lss rfl rfl) rfl ?_
     refine ol_nil (to_k0 (fun _ _ h => h) (hK11 _ _ _ _ _ ?_))
     clear hK11
     refine wp_seq' fun K12 hK12 => ?_
     first | refine wp_condD rfl (fun hc14 => ?_) (fun hc14 => ?_) | refine wp_condN rfl (fun hc14 => ?_) (fun hc14 => ?_) | refine wp_condNB rfl (fun hc14 => ?_) (fun hc14 => ?_) | refine wp_cond' rfl (fun hc14 => ?_) (fun hc14 => ?_)
     ·refine wp_skip' (to_k0 (fun _ _ h => h) (hK12 _ _ _ _ _ ?_))
      clear hK12
      refine wp_seq' fun K13 hK13 => ?_
      refine wp_block' ?_
      refine wp_seq' fun K14 hK14 => ?_
      refine wp_reg ?_
      refine ol_r (r_move rfl) rfl ?_
      refine ol_ixr hl rfl rfl sl71 (by omega) rfl fun x16 hx16 => ?_
      try simp only [Int.toNat_natCast] at hx16
      refine ol_r (r_ldw rfl (fun w1 hb1 hs1 hB1 => Rd.loads hl ty101 hx16 hb1)) rfl ?_
      refine ol_alloc 4 z101 rfl fun b4 => ?_
      refine ol_r (r_assign rfl) rfl ?_
      refine ol_store (id := 4) rfl rfl rfl rfl sz101 rfl rfl (by first | decide | exact Nat.zero_lt_succ _ | simp) ?_
      refine ol_nil (to_k0 (fun _ _ h => h) (hK14 _ _ _ _ _ ?_))
      clear hK14
      refine wp_seq' fun K15 hK15 => ?_
      refine wp_seq' fun K16 hK16 => ?_
      refine wp_reg ?_
      refine ol_r (r_fa (o' := 0) rfl fl101_0 rfl) rfl ?_
      refine ol_r (r_ld (id := 4) rfl rfl rfl sc3) rfl ?_
      refine ol_call rfl rfl cb62 rfl (fun w1 hb1 hs1 hB1 => Calls.mono (ref_outside _ _ _ _) ?_)
      rintro e w2 ⟨rfl, hb2⟩
      refine After.below rfl hb1 hs1 hB1 hb2 ?_
      clear hb2 hB1 hs1 hb1 w2 w1
      refine ol_r (r_move rfl) rfl ?_
      refine ol_split (d := 21) rfl (fun hs21 => ?_) (fun hs21 => ?_)
      ·have phs21 := hs21; try simp only [decide_eq_true_eq, decide_eq_false_iff_not, Bool.not_eq_true', Bool.not_eq_false', Bool.not_true, Bool.not_false] at phs21
       refine ol_s rfl rfl hs21 rfl ?_
       refine ol_s rfl rfl hs21 rfl ?_
       refine ol_s rfl rfl hs21 rfl ?_
       refine ol_r (r_pickT rfl hs21 rfl) rfl ?_
       refine ol_nil (to_k0 (fun _ _ h => h) (hK16 _ _ _ _ _ ?_))
       clear hK16
       refine wp_condT rfl ?_
       refine wp_seq' fun K17 hK17 => ?_
       refine wp_reg ?_
       refine ol_r (r_assign rfl) rfl ?_
       refine ol_nil (to_k0 (fun _ _ h => h) (hK17 _ _ _ _ _ ?_))
       clear hK17
       refine hQ.ret (rvs1 (rv_t rfl)) (fun _ _ h => h) fun w hb hs hB hkd => ?_
       first
         | exact ⟨by unfold racesR; rw [if_pos (by omega)], hb⟩
         | exact ⟨by unfold racesR; rw [if_neg (by omega), if_pos (by omega)], hb⟩
         | exact ⟨by rw [chkG_end hP (by omega)], hb⟩
         | exact ⟨by rw [chkG_bad hP hx16 (raceG_no (.inl (by simpa using hs21)))], hb⟩
         | exact ⟨by rw [chkG_bad hP hx16 (raceG_no (.inr (by simpa using hc25)))], hb⟩
         | exact ⟨by rw [chkG_ord hP hx16 (raceG_yes (by simpa using hs21) (by simpa using hc25)) phs28 hx34 (raceBad_yes (.inl phs38))], hb⟩
         | exact ⟨by rw [chkG_ord hP hx16 (raceG_yes (by simpa using hs21) (by simpa using hc25)) phs28 hx44 (raceBad_yes (.inr hc49))], hb⟩
      ·have phs21 := hs21; try simp only [decide_eq_true_eq, decide_eq_false_iff_not, Bool.not_eq_true', Bool.not_eq_false', Bool.not_true, Bool.not_false] at phs21
       refine ol_g rfl rfl hs21 ?_
       refine ol_r (r_fa (o' := 1) rfl fl101_1 rfl) rfl ?_
       refine ol_g rfl rfl hs21 ?_
       refine ol_r (r_ld (id := 4) rfl rfl rfl sc3) rfl ?_
       refine ol_g rfl rfl hs21 ?_
       refine ol_call rfl rfl cb62 rfl (fun w1 hb1 hs1 hB1 => Calls.mono (ref_outside _ _ _ _) ?_)
       rintro e w2 ⟨rfl, hb2⟩
       refine After.below rfl hb1 hs1 hB1 hb2 ?_
       clear hb2 hB1 hs1 hb1 w2 w1
       refine ol_r (r_pickF rfl hs21 rfl) rfl ?_
       refine ol_nil (to_k0 (fun _ _ h => h) (hK16 _ _ _ _ _ ?_))
       clear hK16
       first | refine wp_condD rfl (fun hc25 => ?_) (fun hc25 => ?_) | refine wp_condN rfl (fun hc25 => ?_) (fun hc25 => ?_) | refine wp_condNB rfl (fun hc25 => ?_) (fun hc25 => ?_) | refine wp_cond' rfl (fun hc25 => ?_) (fun hc25 => ?_)
       ·refine wp_seq' fun K18 hK18 => ?_
        refine wp_reg ?_
        refine ol_r (r_assign rfl) rfl ?_
        refine ol_nil (to_k0 (fun _ _ h => h) (hK18 _ _ _ _ _ ?_))
        clear hK18
        refine hQ.ret (rvs1 (rv_t rfl)) (fun _ _ h => h) fun w hb hs hB hkd => ?_
        first
          | exact ⟨by unfold racesR; rw [if_pos (by omega)], hb⟩
          | exact ⟨by unfold racesR; rw [if_neg (by omega), if_pos (by omega)], hb⟩
          | exact ⟨by rw [chkG_end hP (by omega)], hb⟩
          | exact ⟨by rw [chkG_bad hP hx16 (raceG_no (.inl (by simpa using hs21)))], hb⟩
          | exact ⟨by rw [chkG_bad hP hx16 (raceG_no (.inr (by simpa using hc25)))], hb⟩
          | exact ⟨by rw [chkG_ord hP hx16 (raceG_yes (by simpa using hs21) (by simpa using hc25)) phs28 hx34 (raceBad_yes (.inl phs38))], hb⟩
          | exact ⟨by rw [chkG_ord hP hx16 (raceG_yes (by simpa using hs21) (by simpa using hc25)) phs28 hx44 (raceBad_yes (.inr hc49))], hb⟩
       ·refine wp_skip' (to_k0 (fun _ _ h => h) (hK15 _ _ _ _ _ ?_))
        clear hK15
        refine wp_seq' fun K19 hK19 => ?_
        refine wp_regq (by kernel_rfl) (by kernel_rfl) ?_
        refine ql_r (r_move rfl) rfl ?_
        refine ql_r (r_gtr rfl rfl) rfl ?_
        refine ql_r (r_move rfl) rfl ?_
        refine ql_split (d := 28) rfl (fun hs28 => ?_) (fun hs28 => ?_)
        ·have phs28 := hs28; try simp only [decide_eq_true_eq, decide_eq_false_iff_not, Bool.not_eq_true', Bool.not_eq_false', Bool.not_true, Bool.not_false] at phs28
         refine ql_g rfl rfl hs28 ?_
         refine ql_r (r_fa (o' := 0) rfl fl101_0 rfl) rfl ?_
         refine ql_g rfl rfl hs28 ?_
         refine ql_r (r_ld (id := 4) rfl rfl rfl sc3) rfl ?_
         refine ql_g rfl rfl hs28 ?_
         refine ql_r (r_move rfl) rfl ?_
         refine ql_g rfl rfl hs28 ?_
         refine ql_r (r_move rfl) rfl ?_
         refine ql_g rfl rfl hs28 ?_
         refine ql_r (r_sub rfl rfl (by omega)) rfl ?_
         refine ql_g rfl rfl hs28 ?_
         refine ql_ixr hl rfl rfl sl71 (by omega) rfl fun x34 hx34 => ?_
         try simp only [Int.toNat_natCast] at hx34
         refine ql_g rfl rfl hs28 ?_
         refine ql_r (r_faw rfl (ix_some hl (by omega)) fl101_0) rfl ?_
         refine ql_g rfl rfl hs28 ?_
         refine ql_r (r_ldw rfl (fun w1 hb1 hs1 hB1 => Rd.loadsF (o := 0) hl sc3 hx34 hb1 rfl)) rfl ?_
         refine ql_g rfl rfl hs28 ?_
         refine ql_r (r_leq rfl rfl) rfl ?_
         refine ql_g rfl rfl hs28 ?_
         refine ql_r (r_move rfl) rfl ?_
         refine ql_split (d := 38) rfl (fun hs38 => ?_) (fun hs38 => ?_)
         ·have phs38 := hs38; try simp only [decide_eq_true_eq, decide_eq_false_iff_not, Bool.not_eq_true', Bool.not_eq_false', Bool.not_true, Bool.not_false] at phs38
          refine ql_s rfl rfl hs38 rfl ?_
          refine ql_s rfl rfl hs38 rfl ?_
          refine ql_s rfl rfl hs38 rfl ?_
          refine ql_s rfl rfl hs38 rfl ?_
          refine ql_s rfl rfl hs38 rfl ?_
          refine ql_s rfl rfl hs38 rfl ?_
          refine ql_s rfl rfl hs38 rfl ?_
          refine ql_s rfl rfl hs38 rfl ?_
          refine ql_s rfl rfl hs38 rfl ?_
          refine ql_g rfl rfl hs28 ?_
          refine ql_r (r_pickT rfl hs38 rfl) rfl ?_
          refine ql_r (r_pickT rfl hs28 rfl) rfl ?_
          refine ql_nil (to_k0 (fun _ _ h => h) (hK19 _ _ _ _ _ ?_))
          clear hK19
          refine wp_condT rfl ?_
          refine wp_seq' fun K20 hK20 => ?_
          refine wp_reg ?_
          refine ol_r (r_assign rfl) rfl ?_
          refine ol_nil (to_k0 (fun _ _ h => h) (hK20 _ _ _ _ _ ?_))
          clear hK20
          refine hQ.ret (rvs1 (rv_t rfl)) (fun _ _ h => h) fun w hb hs hB hkd => ?_
          first
            | exact ⟨by unfold racesR; rw [if_pos (by omega)], hb⟩
            | exact ⟨by unfold racesR; rw [if_neg (by omega), if_pos (by omega)], hb⟩
            | exact ⟨by rw [chkG_end hP (by omega)], hb⟩
            | exact ⟨by rw [chkG_bad hP hx16 (raceG_no (.inl (by simpa using hs21)))], hb⟩
            | exact ⟨by rw [chkG_bad hP hx16 (raceG_no (.inr (by simpa using hc25)))], hb⟩
            | exact ⟨by rw [chkG_ord hP hx16 (raceG_yes (by simpa using hs21) (by simpa using hc25)) phs28 hx34 (raceBad_yes (.inl phs38))], hb⟩
            | exact ⟨by rw [chkG_ord hP hx16 (raceG_yes (by simpa using hs21) (by simpa using hc25)) phs28 hx44 (raceBad_yes (.inr hc49))], hb⟩
         ·have phs38 := hs38; try simp only [decide_eq_true_eq, decide_eq_false_iff_not, Bool.not_eq_true', Bool.not_eq_false', Bool.not_true, Bool.not_false] at phs38
          refine ql_g rfl rfl hs38 ?_
          refine ql_r (r_fa (o' := 1) rfl fl101_1 rfl) rfl ?_
          refine ql_g rfl rfl hs38 ?_
          refine ql_r (r_ld (id := 4) rfl rfl rfl sc3) rfl ?_
          refine ql_g rfl rfl hs38 ?_
          refine ql_r (r_move rfl) rfl ?_
          refine ql_g rfl rfl hs38 ?_
          refine ql_r (r_move rfl) rfl ?_
          refine ql_g rfl rfl hs38 ?_
          refine ql_r (r_sub rfl rfl (by omega)) rfl ?_
          refine ql_g rfl rfl hs38 ?_
          refine ql_ixr hl rfl rfl sl71 (by omega) rfl fun x44 hx44 => ?_
          try simp only [Int.toNat_natCast] at hx44
          refine ql_g rfl rfl hs38 ?_
          refine ql_r (r_faw rfl (ix_some hl (by omega)) fl101_1) rfl ?_
          refine ql_g rfl rfl hs38 ?_
          refine ql_r (r_ldw rfl (fun w1 hb1 hs1 hB1 => Rd.loadsF (o := 1) hl sc3 hx44 hb1 rfl)) rfl ?_
          refine ql_g rfl rfl hs38 ?_
          refine ql_r (r_leq rfl rfl) rfl ?_
          refine ql_g rfl rfl hs28 ?_
          refine ql_r (r_pickF rfl hs38 rfl) rfl ?_
          refine ql_r (r_pickT rfl hs28 rfl) rfl ?_
          refine ql_nil (to_k0 (fun _ _ h => h) (hK19 _ _ _ _ _ ?_))
          clear hK19
          first | refine wp_condD rfl (fun hc49 => ?_) (fun hc49 => ?_) | refine wp_condN rfl (fun hc49 => ?_) (fun hc49 => ?_) | refine wp_condNB rfl (fun hc49 => ?_) (fun hc49 => ?_) | refine wp_cond' rfl (fun hc49 => ?_) (fun hc49 => ?_)
          ·refine wp_seq' fun K21 hK21 => ?_
           refine wp_reg ?_
           refine ol_r (r_assign rfl) rfl ?_
           refine ol_nil (to_k0 (fun _ _ h => h) (hK21 _ _ _ _ _ ?_))
           clear hK21
           refine hQ.ret (rvs1 (rv_t rfl)) (fun _ _ h => h) fun w hb hs hB hkd => ?_
           first
             | exact ⟨by unfold racesR; rw [if_pos (by omega)], hb⟩
             | exact ⟨by unfold racesR; rw [if_neg (by omega), if_pos (by omega)], hb⟩
             | exact ⟨by rw [chkG_end hP (by omega)], hb⟩
             | exact ⟨by rw [chkG_bad hP hx16 (raceG_no (.inl (by simpa using hs21)))], hb⟩
             | exact ⟨by rw [chkG_bad hP hx16 (raceG_no (.inr (by simpa using hc25)))], hb⟩
             | exact ⟨by rw [chkG_ord hP hx16 (raceG_yes (by simpa using hs21) (by simpa using hc25)) phs28 hx34 (raceBad_yes (.inl phs38))], hb⟩
             | exact ⟨by rw [chkG_ord hP hx16 (raceG_yes (by simpa using hs21) (by simpa using hc25)) phs28 hx44 (raceBad_yes (.inr hc49))], hb⟩
          ·refine wp_skip' (to_k0 (fun _ _ h => h) (hK13 _ _ _ _ _ ?_))
           clear hK13
           refine wp_reg ?_
           refine ol_r (r_add rfl rfl (by omega)) rfl ?_
           refine ol_r (r_move rfl) rfl ?_
           refine ol_nil (to_k0 (fun _ _ h => h) (hK10 (k + 1) _ _ ?_ ?_ (sub_cons rfl sub_nil) (sub_cons rfl (sub_cons rfl (sub_cons rfl sub_nil))) (by exact subH_nil) subH_nil))
           ·try dsimp only
            have hq : raceG x16 = true := raceG_yes (by simpa using hs21) (by simpa using hc25)
            refine ⟨by omega, ?_⟩
            first
              | exact chkG_next0 hP hx16 hq phs28
              | (have h38 : x44 = x34 := by rw [hx34] at hx44; cases hx44; rfl
                 subst h38
                 exact chkG_next hP hx16 hq phs28 hx34 (raceBad_no phs38 hc49))
           ·try dsimp only
            omega
        ·have phs28 := hs28; try simp only [decide_eq_true_eq, decide_eq_false_iff_not, Bool.not_eq_true', Bool.not_eq_false', Bool.not_true, Bool.not_false] at phs28
         refine ql_s rfl rfl hs28 rfl ?_
         refine ql_s rfl rfl hs28 rfl ?_
         refine ql_s rfl rfl hs28 rfl ?_
         refine ql_s rfl rfl hs28 rfl ?_
         refine ql_s rfl rfl hs28 rfl ?_
         refine ql_s rfl rfl hs28 rfl ?_
         refine ql_s rfl rfl hs28 rfl ?_
         refine ql_s rfl rfl hs28 rfl ?_
         refine ql_s rfl rfl hs28 rfl ?_
         refine ql_s rfl rfl hs28 rfl ?_
         refine ql_u rfl rfl rfl ?_
         refine ql_u rfl rfl rfl ?_
         refine ql_u rfl rfl rfl ?_
         refine ql_u rfl rfl rfl ?_
         refine ql_u rfl rfl rfl ?_
         refine ql_u rfl rfl rfl ?_
         refine ql_u rfl rfl rfl ?_
         refine ql_u rfl rfl rfl ?_
         refine ql_u rfl rfl rfl ?_
         refine ql_s rfl rfl hs28 rfl ?_
         refine ql_r (r_pickF rfl hs28 rfl) rfl ?_
         refine ql_nil (to_k0 (fun _ _ h => h) (hK19 _ _ _ _ _ ?_))
         clear hK19
         refine wp_condF rfl ?_
         refine wp_skip' (to_k0 (fun _ _ h => h) (hK13 _ _ _ _ _ ?_))
         clear hK13
         refine wp_reg ?_
         refine ol_r (r_add rfl rfl (by omega)) rfl ?_
         refine ol_r (r_move rfl) rfl ?_
         refine ol_nil (to_k0 (fun _ _ h => h) (hK10 (k + 1) _ _ ?_ ?_ (sub_cons rfl sub_nil) (sub_cons rfl (sub_cons rfl (sub_cons rfl sub_nil))) (by exact subH_nil) subH_nil))
         ·try dsimp only
          have hq : raceG x16 = true := raceG_yes (by simpa using hs21) (by simpa using hc25)
          refine ⟨by omega, ?_⟩
          first
            | exact chkG_next0 hP hx16 hq phs28
            | (have h38 : x44 = x34 := by rw [hx34] at hx44; cases hx44; rfl
               subst h38
               exact chkG_next hP hx16 hq phs28 hx34 (raceBad_no phs38 hc49))
         ·try dsimp only
          omega
     ·refine wp_exit' (to_k0 (fun _ _ h => h) (hK8 _ _ _ _ _ ?_))
      clear hK8
      refine wp_seq' fun K22 hK22 => ?_
      refine wp_reg ?_
      refine ol_r (r_assign rfl) rfl ?_
      refine ol_nil (to_k0 (fun _ _ h => h) (hK22 _ _ _ _ _ ?_))
      clear hK22
      refine hQ.ret (rvs1 (rv_t rfl)) (fun _ _ h => h) fun w hb hs hB hkd => ?_
      first
        | exact ⟨by unfold racesR; rw [if_pos (by omega)], hb⟩
        | exact ⟨by unfold racesR; rw [if_neg (by omega), if_pos (by omega)], hb⟩
        | exact ⟨by rw [chkG_end hP (by omega)], hb⟩
        | exact ⟨by rw [chkG_bad hP hx16 (raceG_no (.inl (by simpa using hs21)))], hb⟩
        | exact ⟨by rw [chkG_bad hP hx16 (raceG_no (.inr (by simpa using hc25)))], hb⟩
        | exact ⟨by rw [chkG_ord hP hx16 (raceG_yes (by simpa using hs21) (by simpa using hc25)) phs28 hx34 (raceBad_yes (.inl phs38))], hb⟩
        | exact ⟨by rw [chkG_ord hP hx16 (raceG_yes (by simpa using hs21) (by simpa using hc25)) phs28 hx44 (raceBad_yes (.inr hc49))], hb⟩
theorem dbl_bd {s sl : Int} (hs : 1 ≤ s ∧ s ≤ 600000000000) (hl : 0 ≤ sl ∧ sl ≤ 200) : 0 ≤ 2 * s * sl ∧ 2 * s * sl ≤ 240000000000000 := by
  have h := mul_bd (a := 2 * s) (b := sl) (by omega) (show _ ≤ 1200000000000 by omega) hl.1 hl.2
  omega
theorem load_doubled (s sl : Int) (w : World) (hs : 1 ≤ s ∧ s ≤ 600000000000) (hl : 0 ≤ sl ∧ sl ≤ 200) :
    Calls Try.prog 96 #[.int .i64 s, .int .i64 sl] w fun e w' => e = .returned (.int .i64 (dblS s sl)) ∧ Below w.heap.size w w' := by
  have hb1 := dbl_bd hs hl
  refine enterQ (N := 13) (C := fun _ => True) (H := []) (B := w.heap.size) (args := [_, _]) Try.func96 rfl rfl rfl (Nat.le_refl _) (Sat.nil _ _) fun Q hQ => ?_
  refine wp_seq' fun K1 hK1 => ?_
  refine wp_reg ?_
  refine ol_r (r_assign rfl) rfl ?_
  refine ol_nil (to_k0 (fun _ _ h => h) (hK1 _ _ _ _ _ ?_))
  clear hK1
  refine wp_seq' fun K2 hK2 => ?_
  refine wp_reg ?_
  refine ol_r (r_move rfl) rfl ?_
  refine ol_r (r_mul rfl rfl (by omega)) rfl ?_
  refine ol_r (r_move rfl) rfl ?_
  refine ol_r (r_mul rfl rfl (by omega)) rfl ?_
  refine ol_r (r_move rfl) rfl ?_
  refine ol_r (r_mul rfl rfl (by omega)) rfl ?_
  first | refine ol_r (r_quo rfl rfl (by omega)) rfl ?_ | refine ol_r (r_tquo rfl rfl (by omega)) rfl ?_
  refine ol_r (r_add rfl rfl (by omega)) rfl ?_
  refine ol_r (r_assign rfl) rfl ?_
  refine ol_nil (to_k0 (fun _ _ h => h) (hK2 _ _ _ _ _ ?_))
  clear hK2
  refine hQ.ret (rvs1 (rv_t rfl)) (fun _ _ h => h) fun w hb hs hB hkd => ?_
  exact ⟨rfl, hb⟩
theorem ref_doubled (s sl : Int) (w : World) (hs : 1 ≤ s ∧ s ≤ 600000000000) (hl : 0 ≤ sl ∧ sl ≤ 200) :
    Calls Try.prog 97 #[.int .i64 s, .int .i64 sl] w fun e w' => e = .returned (.int .i64 (dblS s sl)) ∧ Below w.heap.size w w' := by
  have hb1 := dbl_bd hs hl
  have e2 : s * 2 = 2 * s := Int.mul_comm _ _
  refine enterQ (N := 13) (C := fun _ => True) (H := []) (B := w.heap.size) (args := [_, _]) Try.func97 rfl rfl rfl (Nat.le_refl _) (Sat.nil _ _) fun Q hQ => ?_
  refine wp_seq' fun K1 hK1 => ?_
  refine wp_reg ?_
  refine ol_r (r_assign rfl) rfl ?_
  refine ol_nil (to_k0 (fun _ _ h => h) (hK1 _ _ _ _ _ ?_))
  clear hK1
  refine wp_seq' fun K2 hK2 => ?_
  refine wp_reg ?_
  refine ol_r (r_move rfl) rfl ?_
  refine ol_r (r_mul rfl rfl (by omega)) rfl ?_
  rw [e2]
  refine ol_r (r_assign rfl) rfl ?_
  refine ol_nil (to_k0 (fun _ _ h => h) (hK2 _ _ _ _ _ ?_))
  clear hK2
  refine wp_seq' fun K3 hK3 => ?_
  refine wp_reg ?_
  refine ol_r (r_move rfl) rfl ?_
  refine ol_r (r_move rfl) rfl ?_
  refine ol_r (r_move rfl) rfl ?_
  refine ol_r (r_mul rfl rfl (by omega)) rfl ?_
  first | refine ol_r (r_quo rfl rfl (by omega)) rfl ?_ | refine ol_r (r_tquo rfl rfl (by omega)) rfl ?_
  refine ol_r (r_add rfl rfl (by omega)) rfl ?_
  refine ol_r (r_assign rfl) rfl ?_
  refine ol_nil (to_k0 (fun _ _ h => h) (hK3 _ _ _ _ _ ?_))
  clear hK3
  refine hQ.ret (rvs1 (rv_t rfl)) (fun _ _ h => h) fun w hb hs hB hkd => ?_
  exact ⟨rfl, hb⟩
theorem cmp_isNaNi (x : Int) (w : World) : Calls Try.prog 103 #[.int .i64 x] w fun e w' => e = .returned (.bool false) ∧ Below w.heap.size w w' := by
  refine enterQ (N := 6) (C := fun _ => True) (H := []) (B := w.heap.size) (args := [_]) Try.func103 rfl rfl rfl (Nat.le_refl _) (Sat.nil _ _) fun Q hQ => ?_
  refine wp_seq' fun K1 hK1 => ?_
  refine wp_reg ?_
  refine ol_r (r_assign rfl) rfl ?_
  refine ol_nil (to_k0 (fun _ _ h => h) (hK1 _ _ _ _ _ ?_))
  clear hK1
  refine wp_seq' fun K2 hK2 => ?_
  refine wp_reg ?_
  refine ol_r (r_move rfl) rfl ?_
  refine ol_r (r_move rfl) rfl ?_
  refine ol_r (r_neq rfl rfl) rfl ?_
  refine ol_r (r_assign rfl) rfl ?_
  refine ol_nil (to_k0 (fun _ _ h => h) (hK2 _ _ _ _ _ ?_))
  clear hK2
  refine hQ.ret (rvs1 (rv_t rfl)) (fun _ _ h => h) fun w hb hs hB hkd => ?_
  exact ⟨by simp, hb⟩
def cmpI (x y : Int) : Int := if x < y then -1 else if y < x then 1 else 0
theorem cmpI_lt {x y : Int} : cmpI x y < 0 ↔ x < y := by
  unfold cmpI
  by_cases h : x < y
  · rw [if_pos h]; omega
  · rw [if_neg h]; split <;> omega
theorem cmpI_eq {x y : Int} : cmpI x y = 0 ↔ x = y := by
  unfold cmpI
  by_cases h : x < y
  · rw [if_pos h]; omega
  · rw [if_neg h]; split <;> omega
theorem cmp_Comparei (x y : Int) (w : World) : Calls Try.prog 95 #[.int .i64 x, .int .i64 y] w fun e w' => e = .returned (.int .i64 (cmpI x y)) ∧ Below w.heap.size w w' := by
  refine enterQ (N := 20) (C := fun _ => True) (H := []) (B := w.heap.size) (args := [_, _]) Try.func95 rfl rfl rfl (Nat.le_refl _) (Sat.nil _ _) fun Q hQ => ?_
  refine wp_seq' fun K1 hK1 => ?_
  refine wp_reg ?_
  refine ol_r (r_assign rfl) rfl ?_
  refine ol_nil (to_k0 (fun _ _ h => h) (hK1 _ _ _ _ _ ?_))
  clear hK1
  refine wp_seq' fun K2 hK2 => ?_
  refine wp_reg ?_
  refine ol_r (r_move rfl) rfl ?_
  refine ol_call rfl rfl cb103 rfl (fun w1 hb1 hs1 hB1 => Calls.mono (cmp_isNaNi _ _) ?_)
  rintro e w2 ⟨rfl, hb2⟩
  refine After.below rfl hb1 hs1 hB1 hb2 ?_
  clear hb2 hB1 hs1 hb1 w2 w1
  refine ol_r (r_assign rfl) rfl ?_
  refine ol_nil (to_k0 (fun _ _ h => h) (hK2 _ _ _ _ _ ?_))
  clear hK2
  refine wp_seq' fun K3 hK3 => ?_
  refine wp_reg ?_
  refine ol_r (r_move rfl) rfl ?_
  refine ol_call rfl rfl cb103 rfl (fun w1 hb1 hs1 hB1 => Calls.mono (cmp_isNaNi _ _) ?_)
  rintro e w2 ⟨rfl, hb2⟩
  refine After.below rfl hb1 hs1 hB1 hb2 ?_
  clear hb2 hB1 hs1 hb1 w2 w1
  refine ol_r (r_assign rfl) rfl ?_
  refine ol_nil (to_k0 (fun _ _ h => h) (hK3 _ _ _ _ _ ?_))
  clear hK3
  refine wp_seq' fun K4 hK4 => ?_
  refine wp_seq' fun K5 hK5 => ?_
  refine wp_reg ?_
  refine ol_r (r_move rfl) rfl ?_
  refine ol_nil (to_k0 (fun _ _ h => h) (hK5 _ _ _ _ _ ?_))
  clear hK5
  first | refine wp_condD rfl (fun hc11 => ?_) (fun hc11 => ?_) | refine wp_condN rfl (fun hc11 => ?_) (fun hc11 => ?_) | refine wp_condNB rfl (fun hc11 => ?_) (fun hc11 => ?_) | refine wp_cond' rfl (fun hc11 => ?_) (fun hc11 => ?_)
  ·refine wp_seq' fun K6 hK6 => ?_
   refine wp_seq' fun K7 hK7 => ?_
   refine wp_reg ?_
   refine ol_r (r_move rfl) rfl ?_
   refine ol_nil (to_k0 (fun _ _ h => h) (hK7 _ _ _ _ _ ?_))
   clear hK7
   first | refine wp_condD rfl (fun hc12 => ?_) (fun hc12 => ?_) | refine wp_condN rfl (fun hc12 => ?_) (fun hc12 => ?_) | refine wp_condNB rfl (fun hc12 => ?_) (fun hc12 => ?_) | refine wp_cond' rfl (fun hc12 => ?_) (fun hc12 => ?_)
   ·refine wp_seq' fun K8 hK8 => ?_
    refine wp_reg ?_
    refine ol_r (r_assign rfl) rfl ?_
    refine ol_nil (to_k0 (fun _ _ h => h) (hK8 _ _ _ _ _ ?_))
    clear hK8
    refine hQ.ret (rvs1 (rv_t rfl)) (fun _ _ h => h) fun w hb hs hB hkd => ?_
    first
      | exact ⟨by unfold cmpI; rw [if_pos (by omega)], hb⟩
      | exact ⟨by unfold cmpI; rw [if_neg (by omega), if_pos (by omega)], hb⟩
      | exact ⟨by unfold cmpI; rw [if_neg (by omega), if_neg (by omega)], hb⟩
      | (exfalso; simp_all; done)
   ·refine wp_skip' (to_k0 (fun _ _ h => h) (hK6 _ _ _ _ _ ?_))
    clear hK6
    refine wp_seq' fun K9 hK9 => ?_
    refine wp_reg ?_
    refine ol_r (r_assign rfl) rfl ?_
    refine ol_nil (to_k0 (fun _ _ h => h) (hK9 _ _ _ _ _ ?_))
    clear hK9
    refine hQ.ret (rvs1 (rv_t rfl)) (fun _ _ h => h) fun w hb hs hB hkd => ?_
    first
      | exact ⟨by unfold cmpI; rw [if_pos (by omega)], hb⟩
      | exact ⟨by unfold cmpI; rw [if_neg (by omega), if_pos (by omega)], hb⟩
      | exact ⟨by unfold cmpI; rw [if_neg (by omega), if_neg (by omega)], hb⟩
      | (exfalso; simp_all; done)
  ·refine wp_skip' (to_k0 (fun _ _ h => h) (hK4 _ _ _ _ _ ?_))
   clear hK4
   refine wp_seq' fun K10 hK10 => ?_
   refine wp_seq' fun K11 hK11 => ?_
   refine wp_reg ?_
   refine ol_r (r_move rfl) rfl ?_
   refine ol_nil (to_k0 (fun _ _ h => h) (hK11 _ _ _ _ _ ?_))
   clear hK11
   first | refine wp_condD rfl (fun hc13 => ?_) (fun hc13 => ?_) | refine wp_condN rfl (fun hc13 => ?_) (fun hc13 => ?_) | refine wp_condNB rfl (fun hc13 => ?_) (fun hc13 => ?_) | refine wp_cond' rfl (fun hc13 => ?_) (fun hc13 => ?_)
   ·refine wp_seq' fun K12 hK12 => ?_
    refine wp_reg ?_
    refine ol_r (r_assign rfl) rfl ?_
    refine ol_nil (to_k0 (fun _ _ h => h) (hK12 _ _ _ _ _ ?_))
    clear hK12
    refine hQ.ret (rvs1 (rv_t rfl)) (fun _ _ h => h) fun w hb hs hB hkd => ?_
    first
      | exact ⟨by unfold cmpI; rw [if_pos (by omega)], hb⟩
      | exact ⟨by unfold cmpI; rw [if_neg (by omega), if_pos (by omega)], hb⟩
      | exact ⟨by unfold cmpI; rw [if_neg (by omega), if_neg (by omega)], hb⟩
      | (exfalso; simp_all; done)
   ·refine wp_skip' (to_k0 (fun _ _ h => h) (hK10 _ _ _ _ _ ?_))
    clear hK10
    refine wp_seq' fun K13 hK13 => ?_
    refine wp_seq' fun K14 hK14 => ?_
    refine wp_reg ?_
    refine ol_r (r_move rfl) rfl ?_
    refine ol_r (r_move rfl) rfl ?_
    refine ol_r (r_lss rfl rfl) rfl ?_
    refine ol_nil (to_k0 (fun _ _ h => h) (hK14 _ _ _ _ _ ?_))
    clear hK14
    first | refine wp_condD rfl (fun hc16 => ?_) (fun hc16 => ?_) | refine wp_condN rfl (fun hc16 => ?_) (fun hc16 => ?_) | refine wp_condNB rfl (fun hc16 => ?_) (fun hc16 => ?_) | refine wp_cond' rfl (fun hc16 => ?_) (fun hc16 => ?_)
    ·refine wp_seq' fun K15 hK15 => ?_
     refine wp_reg ?_
     refine ol_r (r_assign rfl) rfl ?_
     refine ol_nil (to_k0 (fun _ _ h => h) (hK15 _ _ _ _ _ ?_))
     clear hK15
     refine hQ.ret (rvs1 (rv_t rfl)) (fun _ _ h => h) fun w hb hs hB hkd => ?_
     first
       | exact ⟨by unfold cmpI; rw [if_pos (by omega)], hb⟩
       | exact ⟨by unfold cmpI; rw [if_neg (by omega), if_pos (by omega)], hb⟩
       | exact ⟨by unfold cmpI; rw [if_neg (by omega), if_neg (by omega)], hb⟩
       | (exfalso; simp_all; done)
    ·refine wp_skip' (to_k0 (fun _ _ h => h) (hK13 _ _ _ _ _ ?_))
     clear hK13
     refine wp_seq' fun K16 hK16 => ?_
     refine wp_seq' fun K17 hK17 => ?_
     refine wp_reg ?_
     refine ol_r (r_move rfl) rfl ?_
     refine ol_r (r_move rfl) rfl ?_
     refine ol_r (r_gtr rfl rfl) rfl ?_
     refine ol_nil (to_k0 (fun _ _ h => h) (hK17 _ _ _ _ _ ?_))
     clear hK17
     first | refine wp_condD rfl (fun hc19 => ?_) (fun hc19 => ?_) | refine wp_condN rfl (fun hc19 => ?_) (fun hc19 => ?_) | refine wp_condNB rfl (fun hc19 => ?_) (fun hc19 => ?_) | refine wp_cond' rfl (fun hc19 => ?_) (fun hc19 => ?_)
     ·refine wp_seq' fun K18 hK18 => ?_
      refine wp_reg ?_
      refine ol_r (r_assign rfl) rfl ?_
      refine ol_nil (to_k0 (fun _ _ h => h) (hK18 _ _ _ _ _ ?_))
      clear hK18
      refine hQ.ret (rvs1 (rv_t rfl)) (fun _ _ h => h) fun w hb hs hB hkd => ?_
      first
        | exact ⟨by unfold cmpI; rw [if_pos (by omega)], hb⟩
        | exact ⟨by unfold cmpI; rw [if_neg (by omega), if_pos (by omega)], hb⟩
        | exact ⟨by unfold cmpI; rw [if_neg (by omega), if_neg (by omega)], hb⟩
        | (exfalso; simp_all; done)
     ·refine wp_skip' (to_k0 (fun _ _ h => h) (hK16 _ _ _ _ _ ?_))
      clear hK16
      refine wp_seq' fun K19 hK19 => ?_
      refine wp_reg ?_
      refine ol_r (r_assign rfl) rfl ?_
      refine ol_nil (to_k0 (fun _ _ h => h) (hK19 _ _ _ _ _ ?_))
      clear hK19
      refine hQ.ret (rvs1 (rv_t rfl)) (fun _ _ h => h) fun w hb hs hB hkd => ?_
      first
        | exact ⟨by unfold cmpI; rw [if_pos (by omega)], hb⟩
        | exact ⟨by unfold cmpI; rw [if_neg (by omega), if_pos (by omega)], hb⟩
        | exact ⟨by unfold cmpI; rw [if_neg (by omega), if_neg (by omega)], hb⟩
        | (exfalso; simp_all; done)
theorem race_cmp (x : RaceR) (t : Int) (w : World) : Calls Try.prog 94 #[encRace.val x, .int .i64 t] w fun e w' => e = .returned (.int .i64 (cmpI x.way t)) ∧ Below w.heap.size w w' := by
  refine enterQ (N := 9) (C := fun _ => True) (H := []) (B := w.heap.size) (args := [_, _]) Try.func94 rfl rfl rfl (Nat.le_refl _) (Sat.nil _ _) fun Q hQ => ?_
  refine wp_seq' fun K1 hK1 => ?_
  refine wp_reg ?_
  refine ol_box 2 rfl rfl rfl fun b2 => ?_
  refine ol_r (r_assign rfl) rfl ?_
  refine ol_nil (to_k0 (fun _ _ h => h) (hK1 _ _ _ _ _ ?_))
  clear hK1
  refine wp_seq' fun K2 hK2 => ?_
  refine wp_reg ?_
  refine ol_r (r_fa (o' := 0) rfl fl101_0 rfl) rfl ?_
  refine ol_r (r_ld (id := 2) rfl rfl rfl sc3) rfl ?_
  refine ol_r (r_move rfl) rfl ?_
  refine ol_call rfl rfl cb95 rfl (fun w1 hb1 hs1 hB1 => Calls.mono (cmp_Comparei _ _ _) ?_)
  rintro e w2 ⟨rfl, hb2⟩
  refine After.below rfl hb1 hs1 hB1 hb2 ?_
  clear hb2 hB1 hs1 hb1 w2 w1
  refine ol_r (r_assign rfl) rfl ?_
  refine ol_nil (to_k0 (fun _ _ h => h) (hK2 _ _ _ _ _ ?_))
  clear hK2
  refine hQ.ret (rvs1 (rv_t rfl)) (fun _ _ h => h) fun w hb hs hB hkd => ?_
  exact ⟨rfl, hb⟩
structure RPlace (xs : List RaceR) (t : Int) (k : Nat) : Prop where
  le : k ≤ xs.length
  low : k = 0 ∨ ∃ y, xs[k - 1]? = some y ∧ y.way < t
  high : k = xs.length ∨ ∃ y, xs[k]? = some y ∧ t ≤ y.way
theorem binarySearch_race (a : Option Addr) (n cap : Nat) (xs : List RaceR) (t : Int) (w : World) (hl : Rd encRace w.heap.size w a n cap xs) (hn1 : n ≤ 1000000000000) :
    Calls Try.prog 93 #[.slice a n cap, .int .i64 t, .func (.func 94) #[] #[]] w fun e w' => ∃ (k : Nat) (ok : Bool), RPlace xs t k ∧ (ok = true ↔ ∃ y, xs[k]? = some y ∧ y.way = t) ∧ e = .returned (.tuple #[.int .i64 k, .bool ok]) ∧ Below w.heap.size w w' := by
  have hn := hl.len
  have hfit := hl.fit
  subst hn
  refine enterQ (N := 49) (C := fun _ => True) (H := []) (B := w.heap.size) (args := [_, _, _]) Try.func93 rfl rfl rfl (Nat.le_refl _) (Sat.nil _ _) fun Q hQ => ?_
  refine wp_seq' fun K1 hK1 => ?_
  refine wp_reg ?_
  refine ol_r (r_assign rfl) rfl ?_
  refine ol_r (r_assign rfl) rfl ?_
  refine ol_nil (to_k0 (fun _ _ h => h) (hK1 _ _ _ _ _ ?_))
  clear hK1
  refine wp_seq' fun K2 hK2 => ?_
  refine wp_reg ?_
  refine ol_r (r_move rfl) rfl ?_
  refine ol_r (r_len rfl sl71) rfl ?_
  refine ol_r (r_assign rfl) rfl ?_
  refine ol_nil (to_k0 (fun _ _ h => h) (hK2 _ _ _ _ _ ?_))
  clear hK2
  refine wp_seq' fun K3 hK3 => ?_
  refine wp_reg ?_
  refine ol_r (r_move rfl) rfl ?_
  refine ol_r (r_assign rfl) rfl ?_
  refine ol_r (r_assign rfl) rfl ?_
  refine ol_nil (to_k0 (fun _ _ h => h) (hK3 _ _ _ _ _ ?_))
  clear hK3
  refine wp_seq' fun K4 hK4 => ?_
  refine wp_block' ?_
  apply wp_loopM (σ := Int × Int) (fun s => 0 ≤ s.1 ∧ s.1 ≤ s.2 ∧ s.2 ≤ xs.length ∧ (s.1 = 0 ∨ ∃ y, xs[(s.1 - 1).toNat]? = some y ∧ y.way < t) ∧ (s.2 = xs.length ∨ ∃ y, xs[s.2.toNat]? = some y ∧ t ≤ y.way)) (fun s => [(9, .int .i64 s.1), (10, .int .i64 s.2)]) [(0, _), (1, _), (2, _), (6, _), (7, _), (8, _)] (fun s => []) [] (fun s => (s.2 - s.1).toNat) ((0, xs.length))
  ·try dsimp only
   exact ⟨by omega, by omega, by omega, .inl rfl, .inl rfl⟩
  ·exact (sub_cons rfl (sub_cons rfl sub_nil))
  ·exact (sub_cons rfl (sub_cons rfl (sub_cons rfl (sub_cons rfl (sub_cons rfl (sub_cons rfl sub_nil))))))
  ·exact subH_nil
  ·exact subH_nil
  ·rintro ⟨i, j⟩ ⟨h1, h2, h3, h4, h5⟩
   dsimp only at h1 h2 h3 h4 h5 ⊢
   intro K5 hK5
   refine wp_seq' fun K6 hK6 => ?_
   refine wp_seq' fun K7 hK7 => ?_
   refine wp_reg ?_
   refine ol_r (r_move rfl) rfl ?_
   refine ol_r (r_move rfl) rfl ?_
   refine ol_r (r_lss rfl rfl) rfl ?_
   refine ol_nil (to_k0 (fun _ _ h => h) (hK7 _ _ _ _ _ ?_))
   clear hK7
   first | refine wp_condD rfl (fun hc17 => ?_) (fun hc17 => ?_) | refine wp_condN rfl (fun hc17 => ?_) (fun hc17 => ?_) | refine wp_condNB rfl (fun hc17 => ?_) (fun hc17 => ?_) | refine wp_cond' rfl (fun hc17 => ?_) (fun hc17 => ?_)
   ·refine wp_skip' (to_k0 (fun _ _ h => h) (hK6 _ _ _ _ _ ?_))
    clear hK6
    refine wp_block' ?_
    refine wp_seq' fun K8 hK8 => ?_
    refine wp_reg ?_
    refine ol_r (r_move rfl) rfl ?_
    refine ol_r (r_move rfl) rfl ?_
    refine ol_r (r_add rfl rfl (by omega)) rfl ?_
    refine ol_r (r_conv (k2 := .u64) rfl (by kernel_rfl) (by kernel_rfl) (wrap_u64 (by omega))) rfl ?_
    refine ol_r (r_shr1 rfl rfl) rfl ?_
    refine ol_r (r_conv (k2 := .i64) rfl (by kernel_rfl) (by kernel_rfl) (IntWalk.i64_in _ (by omega))) rfl ?_
    refine ol_r (r_assign rfl) rfl ?_
    refine ol_nil (to_k0 (fun _ _ h => h) (hK8 _ _ _ _ _ ?_))
    clear hK8
    refine wp_seq' fun K9 hK9 => ?_
    refine wp_reg ?_
    refine ol_r (r_move rfl) rfl ?_
    refine ol_r (r_move rfl) rfl ?_
    refine ol_r (r_move rfl) rfl ?_
    refine ol_ixr hl rfl rfl sl71 (by omega) rfl fun x27 hx27 => ?_
    try simp only [Int.toNat_natCast] at hx27
    refine ol_r (r_ldw rfl (fun w1 hb1 hs1 hB1 => Rd.loads hl ty101 hx27 hb1)) rfl ?_
    refine ol_r (r_move rfl) rfl ?_
    refine ol_call rfl rfl cb94 rfl (fun w1 hb1 hs1 hB1 => Calls.mono (race_cmp _ _ _) ?_)
    rintro e w2 ⟨rfl, hb2⟩
    refine After.below rfl hb1 hs1 hB1 hb2 ?_
    clear hb2 hB1 hs1 hb1 w2 w1
    refine ol_r (r_lss rfl rfl) rfl ?_
    refine ol_nil (to_k0 (fun _ _ h => h) (hK9 _ _ _ _ _ ?_))
    clear hK9
    first | refine wp_condD rfl (fun hc31 => ?_) (fun hc31 => ?_) | refine wp_condN rfl (fun hc31 => ?_) (fun hc31 => ?_) | refine wp_condNB rfl (fun hc31 => ?_) (fun hc31 => ?_) | refine wp_cond' rfl (fun hc31 => ?_) (fun hc31 => ?_)
    ·refine wp_reg ?_
     refine ol_r (r_move rfl) rfl ?_
     refine ol_r (r_add rfl rfl (by omega)) rfl ?_
     refine ol_r (r_assign rfl) rfl ?_
     refine ol_nil (to_k0 (fun _ _ h => h) (hK5 ((_, _)) _ _ ?_ ?_ (sub_cons rfl (sub_cons rfl sub_nil)) (sub_cons rfl (sub_cons rfl (sub_cons rfl (sub_cons rfl (sub_cons rfl (sub_cons rfl sub_nil)))))) (by exact subH_nil) subH_nil))
     ·try dsimp only
      first
        | exact ⟨by omega, by omega, by omega, .inr ⟨_, by rw [Int.add_sub_cancel]; exact hx27, cmpI_lt.1 hc31⟩, h5⟩
        | exact ⟨by omega, by omega, by omega, h4, .inr ⟨_, hx27, Int.not_lt.1 (fun h => hc31 (cmpI_lt.2 h))⟩⟩
     ·try dsimp only
      omega
    ·refine wp_reg ?_
     refine ol_r (r_move rfl) rfl ?_
     refine ol_r (r_assign rfl) rfl ?_
     refine ol_nil (to_k0 (fun _ _ h => h) (hK5 ((_, _)) _ _ ?_ ?_ (sub_cons rfl (sub_cons rfl sub_nil)) (sub_cons rfl (sub_cons rfl (sub_cons rfl (sub_cons rfl (sub_cons rfl (sub_cons rfl sub_nil)))))) (by exact subH_nil) subH_nil))
     ·try dsimp only
      first
        | exact ⟨by omega, by omega, by omega, .inr ⟨_, by rw [Int.add_sub_cancel]; exact hx27, cmpI_lt.1 hc31⟩, h5⟩
        | exact ⟨by omega, by omega, by omega, h4, .inr ⟨_, hx27, Int.not_lt.1 (fun h => hc31 (cmpI_lt.2 h))⟩⟩
     ·try dsimp only
      omega
   ·refine wp_exit' (to_k0 (fun _ _ h => h) (hK4 _ _ _ _ _ ?_))
    clear hK4
    refine wp_seq' fun K10 hK10 => ?_
    refine wp_reg ?_
    have hij : i = j := by omega
    subst hij
    obtain ⟨k, rfl⟩ := Int.eq_ofNat_of_zero_le h1
    have hPl : RPlace xs t k := ⟨by omega, by
        rcases h4 with h | ⟨y, hy, hyt⟩
        · exact .inl (by omega)
        · by_cases hk0 : k = 0
          · exact .inl hk0
          · exact .inr ⟨y, by rw [← hy]; congr 1; omega, hyt⟩, by
        rcases h5 with h | ⟨y, hy, hyt⟩
        · exact .inl (by omega)
        · exact .inr ⟨y, by simpa using hy, hyt⟩⟩
    refine ol_r (r_move rfl) rfl ?_
    refine ol_r (r_move rfl) rfl ?_
    refine ol_r (r_move rfl) rfl ?_
    refine ol_r (r_lss rfl rfl) rfl ?_
    refine ol_r (r_move rfl) rfl ?_
    refine ol_split (d := 39) rfl (fun hs39 => ?_) (fun hs39 => ?_)
    ·have phs39 := hs39; try simp only [decide_eq_true_eq, decide_eq_false_iff_not, Bool.not_eq_true', Bool.not_eq_false', Bool.not_true, Bool.not_false] at phs39
     refine ol_g rfl rfl hs39 ?_
     refine ol_r (r_move rfl) rfl ?_
     refine ol_g rfl rfl hs39 ?_
     refine ol_r (r_move rfl) rfl ?_
     refine ol_g rfl rfl hs39 ?_
     refine ol_r (r_move rfl) rfl ?_
     refine ol_g rfl rfl hs39 ?_
     refine ol_ixr hl rfl rfl sl71 (by omega) rfl fun x43 hx43 => ?_
     try simp only [Int.toNat_natCast] at hx43
     refine ol_g rfl rfl hs39 ?_
     refine ol_r (r_ldw rfl (fun w1 hb1 hs1 hB1 => Rd.loads hl ty101 hx43 hb1)) rfl ?_
     refine ol_g rfl rfl hs39 ?_
     refine ol_r (r_move rfl) rfl ?_
     refine ol_g rfl rfl hs39 ?_
     refine ol_call rfl rfl cb94 rfl (fun w1 hb1 hs1 hB1 => Calls.mono (race_cmp _ _ _) ?_)
     rintro e w2 ⟨rfl, hb2⟩
     refine After.below rfl hb1 hs1 hB1 hb2 ?_
     clear hb2 hB1 hs1 hb1 w2 w1
     refine ol_g rfl rfl hs39 ?_
     refine ol_r (r_eql rfl rfl) rfl ?_
     refine ol_r (r_pickT rfl hs39 rfl) rfl ?_
     refine ol_r (r_assign rfl) rfl ?_
     refine ol_r (r_assign rfl) rfl ?_
     refine ol_nil (to_k0 (fun _ _ h => h) (hK10 _ _ _ _ _ ?_))
     clear hK10
     refine hQ.ret (rvs2 (rv_t rfl) (rv_t rfl)) (fun _ _ h => h) fun w hb hs hB hkd => ?_
     first
       | exact ⟨k, _, hPl, ⟨fun h => ⟨_, hx43, cmpI_eq.1 (of_decide_eq_true h)⟩, fun ⟨y, hy, hyt⟩ => (by rw [hx43] at hy; cases hy; exact decide_eq_true (cmpI_eq.2 hyt))⟩, rfl, hb⟩
       | exact ⟨k, _, hPl, ⟨fun h => (by cases h), fun ⟨y, hy, _⟩ => (by have := (List.getElem?_eq_some_iff.1 hy).1; omega)⟩, rfl, hb⟩
    ·have phs39 := hs39; try simp only [decide_eq_true_eq, decide_eq_false_iff_not, Bool.not_eq_true', Bool.not_eq_false', Bool.not_true, Bool.not_false] at phs39
     refine ol_s rfl rfl hs39 rfl ?_
     refine ol_s rfl rfl hs39 rfl ?_
     refine ol_s rfl rfl hs39 rfl ?_
     refine ol_s rfl rfl hs39 rfl ?_
     refine ol_s rfl rfl hs39 rfl ?_
     refine ol_s rfl rfl hs39 rfl ?_
     refine ol_s rfl rfl hs39 rfl ?_
     refine ol_s rfl rfl hs39 rfl ?_
     refine ol_r (r_pickF rfl hs39 rfl) rfl ?_
     refine ol_r (r_assign rfl) rfl ?_
     refine ol_r (r_assign rfl) rfl ?_
     refine ol_nil (to_k0 (fun _ _ h => h) (hK10 _ _ _ _ _ ?_))
     clear hK10
     refine hQ.ret (rvs2 (rv_t rfl) (rv_t rfl)) (fun _ _ h => h) fun w hb hs hB hkd => ?_
     first
       | exact ⟨k, _, hPl, ⟨fun h => ⟨_, hx43, cmpI_eq.1 (of_decide_eq_true h)⟩, fun ⟨y, hy, hyt⟩ => (by rw [hx43] at hy; cases hy; exact decide_eq_true (cmpI_eq.2 hyt))⟩, rfl, hb⟩
       | exact ⟨k, _, hPl, ⟨fun h => (by cases h), fun ⟨y, hy, _⟩ => (by have := (List.getElem?_eq_some_iff.1 hy).1; omega)⟩, rfl, hb⟩
end Go.Proofs.Ytamlldedmhkobaa
