/-
  Maps of tiles; tiles in order by the program; lists of tiles that are checked.
-/
import Derived.Test.YtjflbnbofedlkaaXmA
import Derived.Test.YtjflbnbofedlkaaXmB
import Derived.Test.YtjflbnbofedlkaaXmC
import Derived.Test.YtjflbnbofedlkaaXmD

namespace Go.Proofs.Ytjflbnbofedlkaa
open Go Go.RowKit Hx
set_option linter.unusedVariables false
set_option linter.unusedSimpArgs false
set_option maxRecDepth 8000
theorem tile_chk (e : Bool) (a : TileR) (w : World) : (Instr.checkKey e 10000 42 (encTile.val a)).run Try.prog w = .ok () w := by
  show (Instr.checkKey e (9999 + 1) 42 (.agg #[.int .i64 a.1, .int .i64 a.2])).run Try.prog w = .ok () w
  rw [Instr.checkKey]
  have p0 := run_part_plain (P := Try.prog) w (e := 3) (by kernel_rfl) (xs := #[.int .i64 a.1, .int .i64 a.2]) (off := 0) rfl
  have p1 := run_part_plain (P := Try.prog) w (e := 3) (by kernel_rfl) (xs := #[.int .i64 a.1, .int .i64 a.2]) (off := 1) rfl
  simp only [Sem.run_bind, run_underlying (Try.underlying42), Result.andThen_ok]
  simp [Sem.run_bind, p0, p1, Result.andThen_ok, intKey_chk e _ w 9998]
theorem tile_bits (a : TileR) : Instr.sameBits 10000 (encTile.val a) (encTile.val a) = true := by
  show Instr.sameBits (9999 + 1) (.agg #[.int .i64 a.1, .int .i64 a.2]) (.agg #[.int .i64 a.1, .int .i64 a.2]) = true
  simp [Instr.sameBits]
theorem tile_eq (a b : TileR) (w : World) : (Op.equal 42 (encTile.val a) (encTile.val b)).run Try.prog w = .ok (decide (a = b)) w := by
  have h := run_eqs (P := Try.prog) (t := 42) (us := [.int .i64 a.1, .int .i64 a.2]) (vs := [.int .i64 b.1, .int .i64 b.2]) (by kernel_rfl) (by kernel_rfl) w
  have h2 : eqs [Value.int .i64 a.1, .int .i64 a.2] [.int .i64 b.1, .int .i64 b.2] = decide (a = b) := by
    rw [pt_eqs]
    rcases a with ⟨a1, a2⟩; rcases b with ⟨b1, b2⟩
    by_cases h1 : a1 = b1 <;> by_cases h2 : a2 = b2 <;> simp [h1, h2]
  rw [h2] at h
  exact h
theorem tileK : KeyT Try.prog 42 encTile.val := KeyT.agg Try.underlying42 (fun _ _ => rfl) tile_chk tile_bits tile_eq
theorem mk54 : MapK Try.prog 54 encTile.val Value.bool false := ⟨_, _, Try.underlying54, tileK, fun _ => Try.zeroValue4 _⟩
theorem tcf_tot (x y : TileR) (h1 : ltOf tcf x y = false) (h2 : ltOf tcf y x = false) : x = y := by
  rw [tcf_lt] at h1 h2
  exact tlt_tot.total x y h1 h2
theorem sortBy_tcf (xs : List TileR) : sortBy tcf xs = sortL tlt xs := by
  unfold sortBy sortL
  congr 1
  funext x y
  rw [tcf_lt]
def layT0_ren : Go.Shelf.Ren := ⟨fun | 0 => 0 | 1 => 1 | 2 => 2 | 6 => 68 | 11 => 97 | 14 => 94 | 15 => 95 | 18 => 118 | 20 => 108 | 21 => 109 | 22 => 110 | 23 => 111 | 24 => 112 | 25 => 113 | 26 => 114 | 27 => 115 | 28 => 116 | 29 => 117 | 30 => 145 | 46 => 136 | 47 => 137 | 48 => 138 | 49 => 139 | 50 => 140 | 57 => 154 | 60 => 158 | 61 => 159 | 62 => 160 | 63 => 161 | 64 => 162 | 65 => 163 | 66 => 164 | 67 => 165 | 68 => 166 | 69 => 167 | 70 => 168 | 71 => 169 | 72 => 170 | 73 => 171 | 74 => 172 | 75 => 174 | n => n, fun | 0 => 0 | 1 => 1 | 2 => 2 | 3 => 3 | 4 => 4 | 5 => 5 | 6 => 6 | 7 => 7 | 8 => 8 | 9 => 9 | 10 => 10 | 11 => 11 | 12 => 12 | 13 => 13 | 14 => 14 | 15 => 15 | 16 => 16 | 17 => 17 | 18 => 18 | 19 => 19 | 20 => 20 | 21 => 21 | 22 => 45 | 23 => 116 | 24 => 42 | 25 => 117 | 27 => 150 | 28 => 155 | 29 => 91 | 37 => 140 | 38 => 141 | 39 => 142 | 40 => 98 | 41 => 198 | 42 => 170 | 44 => 159 | 45 => 160 | 46 => 161 | 47 => 162 | 48 => 163 | 49 => 164 | 50 => 119 | 51 => 165 | 52 => 166 | 53 => 167 | 54 => 168 | 55 => 169 | 56 => 197 | 66 => 189 | 67 => 190 | 68 => 191 | 69 => 192 | 70 => 193 | 71 => 194 | 76 => 202 | 77 => 203 | 78 => 204 | 81 => 207 | 82 => 208 | 83 => 209 | 84 => 210 | 85 => 211 | 86 => 212 | 87 => 66 | 88 => 213 | 89 => 214 | 90 => 215 | 91 => 216 | 92 => 217 | 93 => 218 | 94 => 219 | 95 => 220 | 96 => 223 | n => n, fun n => n⟩
theorem layT0 : Go.Proofs.SlLaysF0.n6 Try.prog layT0_ren := { mixed := by kernel_rfl, f6 := ⟨"slices.SortFunc[[]harrier/api.Tile,harrier/api.Tile]", by decide, Try.func68.trans (congrArg some (by kernel_rfl))⟩, f14 := ⟨"slices.pdqsortCmpFunc[harrier/api.Tile]", by decide, Try.func94.trans (congrArg some (by kernel_rfl))⟩, f15 := Try.func95.trans (congrArg some (by kernel_rfl)), f20 := ⟨"slices.insertionSortCmpFunc[harrier/api.Tile]", by decide, Try.func108.trans (congrArg some (by kernel_rfl))⟩, f21 := ⟨"slices.heapSortCmpFunc[harrier/api.Tile]", by decide, Try.func109.trans (congrArg some (by kernel_rfl))⟩, f22 := ⟨"slices.breakPatternsCmpFunc[harrier/api.Tile]", by decide, Try.func110.trans (congrArg some (by kernel_rfl))⟩, f23 := ⟨"slices.choosePivotCmpFunc[harrier/api.Tile]", by decide, Try.func111.trans (congrArg some (by kernel_rfl))⟩, f24 := ⟨"slices.reverseRangeCmpFunc[harrier/api.Tile]", by decide, Try.func112.trans (congrArg some (by kernel_rfl))⟩, f25 := ⟨"slices.partialInsertionSortCmpFunc[harrier/api.Tile]", by decide, Try.func113.trans (congrArg some (by kernel_rfl))⟩, f26 := ⟨"slices.partitionEqualCmpFunc[harrier/api.Tile]", by decide, Try.func114.trans (congrArg some (by kernel_rfl))⟩, f27 := ⟨"slices.partitionCmpFunc[harrier/api.Tile]", by decide, Try.func115.trans (congrArg some (by kernel_rfl))⟩, f28 := Try.func116.trans (congrArg some (by kernel_rfl)), f29 := Try.func117.trans (congrArg some (by kernel_rfl)), f46 := ⟨"slices.siftDownCmpFunc[harrier/api.Tile]", by decide, Try.func136.trans (congrArg some (by kernel_rfl))⟩, f47 := Try.func137.trans (congrArg some (by kernel_rfl)), f48 := Try.func138.trans (congrArg some (by kernel_rfl)), f49 := ⟨"slices.medianAdjacentCmpFunc[harrier/api.Tile]", by decide, Try.func139.trans (congrArg some (by kernel_rfl))⟩, f50 := ⟨"slices.medianCmpFunc[harrier/api.Tile]", by decide, Try.func140.trans (congrArg some (by kernel_rfl))⟩, f57 := ⟨"slices.order2CmpFunc[harrier/api.Tile]", by decide, Try.func154.trans (congrArg some (by kernel_rfl))⟩, t0 := Try.underlying0, a0 := Try.isAgg0, z0 := Try.sizeOf0, v0 := Try.zeroValue0, t3 := Try.underlying3, a3 := Try.isAgg3, z3 := Try.sizeOf3, v3 := Try.zeroValue3, t4 := Try.underlying4, a4 := Try.isAgg4, z4 := Try.sizeOf4, v4 := Try.zeroValue4, t5 := Try.underlying5, a5 := Try.isAgg5, z5 := Try.sizeOf5, v5 := Try.zeroValue5, t9 := Try.underlying9, a9 := Try.isAgg9, z9 := Try.sizeOf9, v9 := Try.zeroValue9, t22 := Try.underlying45, a22 := Try.isAgg45, z22 := Try.sizeOf45, v22 := Try.zeroValue45, t25 := Try.underlying117, a25 := Try.isAgg117, z25 := Try.sizeOf117, v25 := Try.zeroValue117, t39 := Try.underlying142, a39 := Try.isAgg142, z39 := Try.sizeOf142, v39 := Try.zeroValue142, t45 := Try.underlying160, a45 := Try.isAgg160, z45 := Try.sizeOf160, v45 := Try.zeroValue160, t46 := Try.underlying161, a46 := Try.isAgg161, z46 := Try.sizeOf161, v46 := Try.zeroValue161, t50 := Try.underlying119, a50 := Try.isAgg119, z50 := Try.sizeOf119, v50 := Try.zeroValue119, t53 := Try.underlying167, a53 := Try.isAgg167, z53 := Try.sizeOf167, v53 := Try.zeroValue167, t55 := Try.underlying169, a55 := Try.isAgg169, z55 := Try.sizeOf169, v55 := Try.zeroValue169, t66 := Try.underlying189, a66 := Try.isAgg189, z66 := Try.sizeOf189, v66 := Try.zeroValue189, t70 := Try.underlying193, a70 := Try.isAgg193, z70 := Try.sizeOf193, v70 := Try.zeroValue193, t76 := Try.underlying202, a76 := Try.isAgg202, z76 := Try.sizeOf202, v76 := Try.zeroValue202, t77 := Try.underlying203, a77 := Try.isAgg203, z77 := Try.sizeOf203, v77 := Try.zeroValue203 }

theorem sort_tiles (B id : Nat) (a : Option Addr) (n c : Nat) (xs : List TileR) (T : TypeId) (H : HL) (w : World) (hB : B ≤ w.heap.size) (hs : Sat B w H) (hr : Hx.look H id = some (.row a n c (encTile.enc xs) T 2)) (hsz : n < 4611686018427387904) :
    Calls Try.prog 68 #[.slice a n c, .func (.func 69) #[] #[]] w fun e w' => e = .returned (.tuple #[]) ∧ Below B w w' ∧ Sat B w' ((id, .row a n c (encTile.enc (sortL tlt xs)) T 2) :: H) ∧ B ≤ w'.heap.size ∧ Kd (fun _ => False) w w' := by
  have hlen : xs.length = n := (hs.rd (E := encTile) hr rfl).len
  by_cases hn : n = 0
  · subst hn
    obtain rfl : xs = [] := List.eq_nil_of_length_eq_zero hlen
    have h := AnyF.slices_SortFunc_none (P := Try.prog) (ρ := layT0_ren) layT0 a c (.func (.func 69) #[] #[]) w
    change Calls Try.prog 68 _ _ _ at h
    refine h.mono ?_
    rintro e w' ⟨rfl, rfl⟩
    have hnil : sortL tlt ([] : List TileR) = [] := List.eq_nil_of_length_eq_zero (sortL_len [])
    rw [hnil]
    exact ⟨rfl, Below.refl _ _, hs.again hr, hB, Kd.refl _ _⟩
  have h := sortK_rows encTile layT0 Try.isAgg42 Try.sizeOf42 tcf tcf_swo tcf_tot 69 #[] (enters_of Try.func69 (by kernel_rfl) rfl) (fun w x y => match_tileOrder x y w) B id a n c xs T H w hB hs hr (by omega) hsz
  rw [sortBy_tcf] at h
  exact h
/-! #### lists of tiles that are right -/
theorem tcf_lo {a b : TileR} (h : ¬(0 : Int) ≤ tcf a b) : (!tlt a b) = false := by
  rw [← tcf_lt]; unfold ltOf; simp; omega
theorem tcf_hi {a b : TileR} (h : (0 : Int) ≤ tcf a b) : (!tlt a b) = true := by
  rw [← tcf_lt]; unfold ltOf; simp; omega
theorem match_CheckTiles (a : Option Addr) (n c : Nat) (xs : List TileR) (w : World) (hS : Rd encTile w.heap.size w a n c xs) :
    Calls Try.prog 40 #[.slice a n c] w fun e w' => e = .returned (.int .i64 (chkT xs)) ∧ Below w.heap.size w w' := by
  have hsn := hS.len
  have hsf := hS.fit
  refine enterQ (N := 35) (C := fun _ => True) (H := []) (B := w.heap.size) (args := [_]) Try.func40 rfl rfl rfl (Nat.le_refl _) (Sat.nil _ _) fun Q hQ => ?_
  refine wp_seq' fun K1 hK1 => ?_
  refine wp_reg ?_
  refine ol_r (r_assign rfl) rfl ?_
  refine ol_nil (to_k0 (fun _ _ h => h) (hK1 _ _ _ _ _ ?_))
  clear hK1
  refine wp_seq' fun K2 hK2 => ?_
  refine wp_seq' fun K3 hK3 => ?_
  refine wp_reg ?_
  refine ol_r (r_move rfl) rfl ?_
  refine ol_r (r_len rfl sl45) rfl ?_
  refine ol_r (r_gtr rfl rfl) rfl ?_
  refine ol_nil (to_k0 (fun _ _ h => h) (hK3 _ _ _ _ _ ?_))
  clear hK3
  first | refine wp_condD rfl (fun hc7 => ?_) (fun hc7 => ?_) | refine wp_condN rfl (fun hc7 => ?_) (fun hc7 => ?_) | refine wp_condNB rfl (fun hc7 => ?_) (fun hc7 => ?_) | refine wp_cond' rfl (fun hc7 => ?_) (fun hc7 => ?_)
  ·refine wp_seq' fun K4 hK4 => ?_
   refine wp_reg ?_
   refine ol_r (r_assign rfl) rfl ?_
   refine ol_nil (to_k0 (fun _ _ h => h) (hK4 _ _ _ _ _ ?_))
   clear hK4
   refine hQ.ret (rvs1 (rv_t rfl)) (fun _ _ h => h) fun w hb hs hB hkd => ?_
   exact ⟨by rw [chkT_3 (by omega)], hb⟩
  ·refine wp_skip' (to_k0 (fun _ _ h => h) (hK2 _ _ _ _ _ ?_))
   clear hK2
   refine wp_seq' fun K5 hK5 => ?_
   refine wp_seq' fun K6 hK6 => ?_
   refine wp_reg ?_
   refine ol_r (r_move rfl) rfl ?_
   refine ol_r (r_len rfl sl45) rfl ?_
   refine ol_r (r_move rfl) rfl ?_
   refine ol_nil (to_k0 (fun _ _ h => h) (hK6 _ _ _ _ _ ?_))
   clear hK6
   refine wp_block' ?_
   apply wp_loopM (σ := Nat) (fun s => s ≤ n ∧ chkE fTi none xs = chkE fTi (ahead xs s) (xs.drop s)) (fun s => [(10, .int .i64 s)]) [(0, _), (8, _), (9, _)] (fun s => []) [] (fun s => n - s) (0)
   ·try dsimp only
    exact ⟨Nat.zero_le _, chkE_start _ _⟩
   ·exact (sub_cons rfl sub_nil)
   ·exact (sub_cons rfl (sub_cons rfl (sub_cons rfl sub_nil)))
   ·exact subH_nil
   ·exact subH_nil
   ·rintro k ⟨hk, hP⟩
    intro K7 hK7
    refine wp_seq' fun K8 hK8 => ?_
    refine wp_reg ?_
    refine ol_r (r_lss rfl rfl) rfl ?_
    refine ol_nil (to_k0 (fun _ _ h => h) (hK8 _ _ _ _ _ ?_))
    clear hK8
    refine wp_seq' fun K9 hK9 => ?_
    first | refine wp_condD rfl (fun hc11 => ?_) (fun hc11 => ?_) | refine wp_condN rfl (fun hc11 => ?_) (fun hc11 => ?_) | refine wp_condNB rfl (fun hc11 => ?_) (fun hc11 => ?_) | refine wp_cond' rfl (fun hc11 => ?_) (fun hc11 => ?_)
    ·refine wp_skip' (to_k0 (fun _ _ h => h) (hK9 _ _ _ _ _ ?_))
     clear hK9
     refine wp_seq' fun K10 hK10 => ?_
     refine wp_block' ?_
     refine wp_seq' fun K11 hK11 => ?_
     refine wp_reg ?_
     refine ol_r (r_move rfl) rfl ?_
     refine ol_ixr hS rfl rfl sl45 (by omega) rfl fun x13 hx13 => ?_
     try simp only [Int.toNat_natCast] at hx13
     refine ol_r (r_ldw rfl (fun w1 hb1 hs1 hB1 => Rd.loads hS ty42 hx13 hb1)) rfl ?_
     refine ol_alloc 4 z42 rfl fun b4 => ?_
     refine ol_r (r_assign rfl) rfl ?_
     refine ol_store (id := 4) rfl rfl rfl rfl sz42 rfl rfl (by first | decide | exact Nat.zero_lt_succ _ | simp) ?_
     refine ol_nil (to_k0 (fun _ _ h => h) (hK11 _ _ _ _ _ ?_))
     clear hK11
     refine wp_seq' fun K12 hK12 => ?_
     refine wp_seq' fun K13 hK13 => ?_
     refine wp_reg ?_
     refine ol_r (r_fa (o' := 0) rfl fl42_0 rfl) rfl ?_
     refine ol_r (r_ld (id := 4) rfl rfl rfl sc3) rfl ?_
     refine ol_r (r_fa (o' := 1) rfl fl42_1 rfl) rfl ?_
     refine ol_r (r_ld (id := 4) rfl rfl rfl sc3) rfl ?_
     refine ol_r (r_build rfl (fun _ => bd41_0_1 _ _ _)) rfl ?_
     refine ol_call rfl rfl cb50 rfl (fun w1 hb1 hs1 hB1 => Calls.mono (match_isPlace _ _ _) ?_)
     rintro e w2 ⟨rfl, hb2⟩
     refine After.below rfl hb1 hs1 hB1 hb2 ?_
     clear hb2 hB1 hs1 hb1 w2 w1
     refine ol_r (r_not rfl) rfl ?_
     refine ol_nil (to_k0 (fun _ _ h => h) (hK13 _ _ _ _ _ ?_))
     clear hK13
     first | refine wp_condD rfl (fun hc21 => ?_) (fun hc21 => ?_) | refine wp_condN rfl (fun hc21 => ?_) (fun hc21 => ?_) | refine wp_condNB rfl (fun hc21 => ?_) (fun hc21 => ?_) | refine wp_cond' rfl (fun hc21 => ?_) (fun hc21 => ?_)
     ·refine wp_seq' fun K14 hK14 => ?_
      refine wp_reg ?_
      refine ol_r (r_assign rfl) rfl ?_
      refine ol_nil (to_k0 (fun _ _ h => h) (hK14 _ _ _ _ _ ?_))
      clear hK14
      refine hQ.ret (rvs1 (rv_t rfl)) (fun _ _ h => h) fun w hb hs hB hkd => ?_
      exact ⟨by rw [chkT_g (by omega), chkE_bad hP hx13 (fTi_9 (by simpa using hc21)) (by simp)], hb⟩
     ·refine wp_skip' (to_k0 (fun _ _ h => h) (hK12 _ _ _ _ _ ?_))
      clear hK12
      refine wp_seq' fun K15 hK15 => ?_
      refine wp_regq (by kernel_rfl) (by kernel_rfl) ?_
      refine ql_r (r_move rfl) rfl ?_
      refine ql_r (r_gtr rfl rfl) rfl ?_
      refine ql_r (r_move rfl) rfl ?_
      refine ql_split (d := 24) rfl (fun hs24 => ?_) (fun hs24 => ?_)
      ·have phs24 := hs24; try simp only [decide_eq_true_eq, decide_eq_false_iff_not, Bool.not_eq_true', Bool.not_eq_false', Bool.not_true, Bool.not_false] at phs24
       refine ql_g rfl rfl hs24 ?_
       refine ql_r (r_move rfl) rfl ?_
       refine ql_g rfl rfl hs24 ?_
       refine ql_r (r_move rfl) rfl ?_
       refine ql_g rfl rfl hs24 ?_
       refine ql_r (r_sub rfl rfl (by omega)) rfl ?_
       refine ql_g rfl rfl hs24 ?_
       refine ql_ixr hS rfl rfl sl45 (by omega) rfl fun x28 hx28 => ?_
       try simp only [Int.toNat_natCast] at hx28
       refine ql_g rfl rfl hs24 ?_
       refine ql_r (r_ldw rfl (fun w1 hb1 hs1 hB1 => Rd.loads hS ty42 hx28 hb1)) rfl ?_
       refine ql_g rfl rfl hs24 ?_
       refine ql_r (r_lda (id := 4) (n := 2) rfl rfl rfl ag42) rfl ?_
       refine ql_g rfl rfl hs24 ?_
       refine ql_call rfl rfl cb69 rfl (fun w1 hb1 hs1 hB1 => match_tileOrder _ _ _) ?_
       refine ql_g rfl rfl hs24 ?_
       refine ql_r (r_geq rfl rfl) rfl ?_
       refine ql_r (r_pickT rfl hs24 rfl) rfl ?_
       refine ql_nil (to_k0 (fun _ _ h => h) (hK15 _ _ _ _ _ ?_))
       clear hK15
       first | refine wp_condD rfl (fun hc33 => ?_) (fun hc33 => ?_) | refine wp_condN rfl (fun hc33 => ?_) (fun hc33 => ?_) | refine wp_condNB rfl (fun hc33 => ?_) (fun hc33 => ?_) | refine wp_cond' rfl (fun hc33 => ?_) (fun hc33 => ?_)
       ·refine wp_seq' fun K16 hK16 => ?_
        refine wp_reg ?_
        refine ol_r (r_assign rfl) rfl ?_
        refine ol_nil (to_k0 (fun _ _ h => h) (hK16 _ _ _ _ _ ?_))
        clear hK16
        refine hQ.ret (rvs1 (rv_t rfl)) (fun _ _ h => h) fun w hb hs hB hkd => ?_
        exact ⟨by rw [chkT_g (by omega), chkE_bad hP hx13 (fTi_10 (by simpa using hc21) (by rw [ordTi_1 (by omega) hx28]; exact tcf_hi hc33)) (by simp)], hb⟩
       ·refine wp_skip' (to_k0 (fun _ _ h => h) (hK10 _ _ _ _ _ ?_))
        clear hK10
        refine wp_reg ?_
        have ho : ordTi (ahead xs k) x13 = false := by
          first
          | (rw [ordTi_0 (by omega)]; done)
          | (rw [ordTi_1 (by omega) hx28]; exact tcf_lo hc33)
        refine ol_r (r_add rfl rfl (by omega)) rfl ?_
        refine ol_r (r_move rfl) rfl ?_
        refine ol_nil (to_k0 (fun _ _ h => h) (hK7 (k + 1) _ _ ?_ ?_ (sub_cons rfl sub_nil) (sub_cons rfl (sub_cons rfl (sub_cons rfl sub_nil))) (by exact subH_nil) subH_nil))
        ·try dsimp only
         exact ⟨by omega, chkE_next hP hx13 (fTi_0 (by simpa using hc21) ho)⟩
        ·try dsimp only
         omega
      ·have phs24 := hs24; try simp only [decide_eq_true_eq, decide_eq_false_iff_not, Bool.not_eq_true', Bool.not_eq_false', Bool.not_true, Bool.not_false] at phs24
       refine ql_s rfl rfl hs24 rfl ?_
       refine ql_s rfl rfl hs24 rfl ?_
       refine ql_s rfl rfl hs24 rfl ?_
       refine ql_s rfl rfl hs24 rfl ?_
       refine ql_s rfl rfl hs24 rfl ?_
       refine ql_s rfl rfl hs24 rfl ?_
       refine ql_s rfl rfl hs24 rfl ?_
       refine ql_s rfl rfl hs24 rfl ?_
       refine ql_r (r_pickF rfl hs24 rfl) rfl ?_
       refine ql_nil (to_k0 (fun _ _ h => h) (hK15 _ _ _ _ _ ?_))
       clear hK15
       refine wp_condF rfl ?_
       refine wp_skip' (to_k0 (fun _ _ h => h) (hK10 _ _ _ _ _ ?_))
       clear hK10
       refine wp_reg ?_
       have ho : ordTi (ahead xs k) x13 = false := by
         first
         | (rw [ordTi_0 (by omega)]; done)
         | (rw [ordTi_1 (by omega) hx28]; exact tcf_lo hc33)
       refine ol_r (r_add rfl rfl (by omega)) rfl ?_
       refine ol_r (r_move rfl) rfl ?_
       refine ol_nil (to_k0 (fun _ _ h => h) (hK7 (k + 1) _ _ ?_ ?_ (sub_cons rfl sub_nil) (sub_cons rfl (sub_cons rfl (sub_cons rfl sub_nil))) (by exact subH_nil) subH_nil))
       ·try dsimp only
        exact ⟨by omega, chkE_next hP hx13 (fTi_0 (by simpa using hc21) ho)⟩
       ·try dsimp only
        omega
    ·refine wp_exit' (to_k0 (fun _ _ h => h) (hK5 _ _ _ _ _ ?_))
     clear hK5
     refine wp_seq' fun K17 hK17 => ?_
     refine wp_reg ?_
     refine ol_r (r_assign rfl) rfl ?_
     refine ol_nil (to_k0 (fun _ _ h => h) (hK17 _ _ _ _ _ ?_))
     clear hK17
     refine hQ.ret (rvs1 (rv_t rfl)) (fun _ _ h => h) fun w hb hs hB hkd => ?_
     exact ⟨by rw [chkT_g (by omega), chkE_end hP (by omega)], hb⟩
theorem ref5_CheckTiles (a : Option Addr) (n c : Nat) (xs : List TileR) (w : World) (hS : Rd encTile w.heap.size w a n c xs) :
    Calls Try.prog 41 #[.slice a n c] w fun e w' => e = .returned (.int .i64 (chkT xs)) ∧ Below w.heap.size w w' := by
  have hsn := hS.len
  have hsf := hS.fit
  refine enterQ (N := 36) (C := fun _ => True) (H := []) (B := w.heap.size) (args := [_]) Try.func41 rfl rfl rfl (Nat.le_refl _) (Sat.nil _ _) fun Q hQ => ?_
  refine wp_seq' fun K1 hK1 => ?_
  refine wp_reg ?_
  refine ol_r (r_assign rfl) rfl ?_
  refine ol_nil (to_k0 (fun _ _ h => h) (hK1 _ _ _ _ _ ?_))
  clear hK1
  refine wp_seq' fun K2 hK2 => ?_
  refine wp_seq' fun K3 hK3 => ?_
  refine wp_reg ?_
  refine ol_r (r_move rfl) rfl ?_
  refine ol_r (r_len rfl sl45) rfl ?_
  refine ol_r (r_gtr rfl rfl) rfl ?_
  refine ol_nil (to_k0 (fun _ _ h => h) (hK3 _ _ _ _ _ ?_))
  clear hK3
  first | refine wp_condD rfl (fun hc7 => ?_) (fun hc7 => ?_) | refine wp_condN rfl (fun hc7 => ?_) (fun hc7 => ?_) | refine wp_condNB rfl (fun hc7 => ?_) (fun hc7 => ?_) | refine wp_cond' rfl (fun hc7 => ?_) (fun hc7 => ?_)
  ·refine wp_seq' fun K4 hK4 => ?_
   refine wp_reg ?_
   refine ol_r (r_assign rfl) rfl ?_
   refine ol_nil (to_k0 (fun _ _ h => h) (hK4 _ _ _ _ _ ?_))
   clear hK4
   refine hQ.ret (rvs1 (rv_t rfl)) (fun _ _ h => h) fun w hb hs hB hkd => ?_
   exact ⟨by rw [chkT_3 (by omega)], hb⟩
  ·refine wp_skip' (to_k0 (fun _ _ h => h) (hK2 _ _ _ _ _ ?_))
   clear hK2
   refine wp_seq' fun K5 hK5 => ?_
   refine wp_seq' fun K6 hK6 => ?_
   refine wp_reg ?_
   refine ol_r (r_move rfl) rfl ?_
   refine ol_r (r_len rfl sl45) rfl ?_
   refine ol_r (r_move rfl) rfl ?_
   refine ol_nil (to_k0 (fun _ _ h => h) (hK6 _ _ _ _ _ ?_))
   clear hK6
   refine wp_block' ?_
   apply wp_loopM (σ := Nat) (fun s => s ≤ n ∧ chkE fTi none xs = chkE fTi (ahead xs s) (xs.drop s)) (fun s => [(10, .int .i64 s)]) [(0, _), (8, _), (9, _)] (fun s => []) [] (fun s => n - s) (0)
   ·try dsimp only
    exact ⟨Nat.zero_le _, chkE_start _ _⟩
   ·exact (sub_cons rfl sub_nil)
   ·exact (sub_cons rfl (sub_cons rfl (sub_cons rfl sub_nil)))
   ·exact subH_nil
   ·exact subH_nil
   ·rintro k ⟨hk, hP⟩
    intro K7 hK7
    refine wp_seq' fun K8 hK8 => ?_
    refine wp_reg ?_
    refine ol_r (r_lss rfl rfl) rfl ?_
    refine ol_nil (to_k0 (fun _ _ h => h) (hK8 _ _ _ _ _ ?_))
    clear hK8
    refine wp_seq' fun K9 hK9 => ?_
    first | refine wp_condD rfl (fun hc11 => ?_) (fun hc11 => ?_) | refine wp_condN rfl (fun hc11 => ?_) (fun hc11 => ?_) | refine wp_condNB rfl (fun hc11 => ?_) (fun hc11 => ?_) | refine wp_cond' rfl (fun hc11 => ?_) (fun hc11 => ?_)
    ·refine wp_skip' (to_k0 (fun _ _ h => h) (hK9 _ _ _ _ _ ?_))
     clear hK9
     refine wp_seq' fun K10 hK10 => ?_
     refine wp_block' ?_
     refine wp_seq' fun K11 hK11 => ?_
     refine wp_reg ?_
     refine ol_r (r_move rfl) rfl ?_
     refine ol_ixr hS rfl rfl sl45 (by omega) rfl fun x13 hx13 => ?_
     try simp only [Int.toNat_natCast] at hx13
     refine ol_r (r_ldw rfl (fun w1 hb1 hs1 hB1 => Rd.loads hS ty42 hx13 hb1)) rfl ?_
     refine ol_alloc 4 z42 rfl fun b4 => ?_
     refine ol_r (r_assign rfl) rfl ?_
     refine ol_store (id := 4) rfl rfl rfl rfl sz42 rfl rfl (by first | decide | exact Nat.zero_lt_succ _ | simp) ?_
     refine ol_nil (to_k0 (fun _ _ h => h) (hK11 _ _ _ _ _ ?_))
     clear hK11
     refine wp_seq' fun K12 hK12 => ?_
     refine wp_seq' fun K13 hK13 => ?_
     refine wp_reg ?_
     refine ol_r (r_fa (o' := 0) rfl fl42_0 rfl) rfl ?_
     refine ol_r (r_ld (id := 4) rfl rfl rfl sc3) rfl ?_
     refine ol_call rfl rfl cb47 rfl (fun w1 hb1 hs1 hB1 => Calls.mono (ref5_outside _ _ _ _) ?_)
     rintro e w2 ⟨rfl, hb2⟩
     refine After.below rfl hb1 hs1 hB1 hb2 ?_
     clear hb2 hB1 hs1 hb1 w2 w1
     refine ol_r (r_move rfl) rfl ?_
     refine ol_split (d := 18) rfl (fun hs18 => ?_) (fun hs18 => ?_)
     ·have phs18 := hs18; try simp only [decide_eq_true_eq, decide_eq_false_iff_not, Bool.not_eq_true', Bool.not_eq_false', Bool.not_true, Bool.not_false] at phs18
      refine ol_s rfl rfl hs18 rfl ?_
      refine ol_s rfl rfl hs18 rfl ?_
      refine ol_s rfl rfl hs18 rfl ?_
      refine ol_r (r_pickT rfl hs18 rfl) rfl ?_
      refine ol_nil (to_k0 (fun _ _ h => h) (hK13 _ _ _ _ _ ?_))
      clear hK13
      refine wp_condT rfl ?_
      refine wp_seq' fun K14 hK14 => ?_
      refine wp_reg ?_
      refine ol_r (r_assign rfl) rfl ?_
      refine ol_nil (to_k0 (fun _ _ h => h) (hK14 _ _ _ _ _ ?_))
      clear hK14
      refine hQ.ret (rvs1 (rv_t rfl)) (fun _ _ h => h) fun w hb hs hB hkd => ?_
      exact ⟨by rw [chkT_g (by omega), chkE_bad hP hx13 (fTi_9 (by unfold ptB; rw [phs18]; rfl)) (by simp)], hb⟩
     ·have phs18 := hs18; try simp only [decide_eq_true_eq, decide_eq_false_iff_not, Bool.not_eq_true', Bool.not_eq_false', Bool.not_true, Bool.not_false] at phs18
      refine ol_g rfl rfl hs18 ?_
      refine ol_r (r_fa (o' := 1) rfl fl42_1 rfl) rfl ?_
      refine ol_g rfl rfl hs18 ?_
      refine ol_r (r_ld (id := 4) rfl rfl rfl sc3) rfl ?_
      refine ol_g rfl rfl hs18 ?_
      refine ol_call rfl rfl cb47 rfl (fun w1 hb1 hs1 hB1 => Calls.mono (ref5_outside _ _ _ _) ?_)
      rintro e w2 ⟨rfl, hb2⟩
      refine After.below rfl hb1 hs1 hB1 hb2 ?_
      clear hb2 hB1 hs1 hb1 w2 w1
      refine ol_r (r_pickF rfl hs18 rfl) rfl ?_
      refine ol_nil (to_k0 (fun _ _ h => h) (hK13 _ _ _ _ _ ?_))
      clear hK13
      first | refine wp_condD rfl (fun hc22 => ?_) (fun hc22 => ?_) | refine wp_condN rfl (fun hc22 => ?_) (fun hc22 => ?_) | refine wp_condNB rfl (fun hc22 => ?_) (fun hc22 => ?_) | refine wp_cond' rfl (fun hc22 => ?_) (fun hc22 => ?_)
      ·refine wp_seq' fun K15 hK15 => ?_
       refine wp_reg ?_
       refine ol_r (r_assign rfl) rfl ?_
       refine ol_nil (to_k0 (fun _ _ h => h) (hK15 _ _ _ _ _ ?_))
       clear hK15
       refine hQ.ret (rvs1 (rv_t rfl)) (fun _ _ h => h) fun w hb hs hB hkd => ?_
       exact ⟨by rw [chkT_g (by omega), chkE_bad hP hx13 (fTi_9 (by unfold ptB; rw [phs18, Bool.true_and]; simpa using hc22)) (by simp)], hb⟩
      ·refine wp_skip' (to_k0 (fun _ _ h => h) (hK12 _ _ _ _ _ ?_))
       clear hK12
       refine wp_seq' fun K16 hK16 => ?_
       refine wp_regq (by kernel_rfl) (by kernel_rfl) ?_
       have hpt : ptB x13.1 x13.2 = true := by unfold ptB; rw [phs18, Bool.true_and]; simpa using hc22
       refine ql_r (r_move rfl) rfl ?_
       refine ql_r (r_gtr rfl rfl) rfl ?_
       refine ql_r (r_move rfl) rfl ?_
       refine ql_split (d := 25) rfl (fun hs25 => ?_) (fun hs25 => ?_)
       ·have phs25 := hs25; try simp only [decide_eq_true_eq, decide_eq_false_iff_not, Bool.not_eq_true', Bool.not_eq_false', Bool.not_true, Bool.not_false] at phs25
        refine ql_g rfl rfl hs25 ?_
        refine ql_r (r_move rfl) rfl ?_
        refine ql_g rfl rfl hs25 ?_
        refine ql_r (r_move rfl) rfl ?_
        refine ql_g rfl rfl hs25 ?_
        refine ql_r (r_sub rfl rfl (by omega)) rfl ?_
        refine ql_g rfl rfl hs25 ?_
        refine ql_ixr hS rfl rfl sl45 (by omega) rfl fun x29 hx29 => ?_
        try simp only [Int.toNat_natCast] at hx29
        refine ql_g rfl rfl hs25 ?_
        refine ql_r (r_ldw rfl (fun w1 hb1 hs1 hB1 => Rd.loads hS ty42 hx29 hb1)) rfl ?_
        refine ql_g rfl rfl hs25 ?_
        refine ql_r (r_lda (id := 4) (n := 2) rfl rfl rfl ag42) rfl ?_
        refine ql_g rfl rfl hs25 ?_
        refine ql_call rfl rfl cb73 rfl (fun w1 hb1 hs1 hB1 => ref5_comes _ _ _) ?_
        refine ql_g rfl rfl hs25 ?_
        refine ql_r (r_not rfl) rfl ?_
        refine ql_r (r_pickT rfl hs25 rfl) rfl ?_
        refine ql_nil (to_k0 (fun _ _ h => h) (hK16 _ _ _ _ _ ?_))
        clear hK16
        first | refine wp_condD rfl (fun hc34 => ?_) (fun hc34 => ?_) | refine wp_condN rfl (fun hc34 => ?_) (fun hc34 => ?_) | refine wp_condNB rfl (fun hc34 => ?_) (fun hc34 => ?_) | refine wp_cond' rfl (fun hc34 => ?_) (fun hc34 => ?_)
        ·refine wp_seq' fun K17 hK17 => ?_
         refine wp_reg ?_
         refine ol_r (r_assign rfl) rfl ?_
         refine ol_nil (to_k0 (fun _ _ h => h) (hK17 _ _ _ _ _ ?_))
         clear hK17
         refine hQ.ret (rvs1 (rv_t rfl)) (fun _ _ h => h) fun w hb hs hB hkd => ?_
         exact ⟨by rw [chkT_g (by omega), chkE_bad hP hx13 (fTi_10 hpt (by rw [ordTi_1 (by omega) hx29]; simpa using hc34)) (by simp)], hb⟩
        ·refine wp_skip' (to_k0 (fun _ _ h => h) (hK10 _ _ _ _ _ ?_))
         clear hK10
         refine wp_reg ?_
         have ho : ordTi (ahead xs k) x13 = false := by
           first
           | (rw [ordTi_0 (by omega)]; done)
           | (rw [ordTi_1 (by omega) hx29]; simpa using hc34)
         refine ol_r (r_add rfl rfl (by omega)) rfl ?_
         refine ol_r (r_move rfl) rfl ?_
         refine ol_nil (to_k0 (fun _ _ h => h) (hK7 (k + 1) _ _ ?_ ?_ (sub_cons rfl sub_nil) (sub_cons rfl (sub_cons rfl (sub_cons rfl sub_nil))) (by exact subH_nil) subH_nil))
         ·try dsimp only
          exact ⟨by omega, chkE_next hP hx13 (fTi_0 hpt ho)⟩
         ·try dsimp only
          omega
       ·have phs25 := hs25; try simp only [decide_eq_true_eq, decide_eq_false_iff_not, Bool.not_eq_true', Bool.not_eq_false', Bool.not_true, Bool.not_false] at phs25
        refine ql_s rfl rfl hs25 rfl ?_
        refine ql_s rfl rfl hs25 rfl ?_
        refine ql_s rfl rfl hs25 rfl ?_
        refine ql_s rfl rfl hs25 rfl ?_
        refine ql_s rfl rfl hs25 rfl ?_
        refine ql_s rfl rfl hs25 rfl ?_
        refine ql_s rfl rfl hs25 rfl ?_
        refine ql_s rfl rfl hs25 rfl ?_
        refine ql_r (r_pickF rfl hs25 rfl) rfl ?_
        refine ql_nil (to_k0 (fun _ _ h => h) (hK16 _ _ _ _ _ ?_))
        clear hK16
        refine wp_condF rfl ?_
        refine wp_skip' (to_k0 (fun _ _ h => h) (hK10 _ _ _ _ _ ?_))
        clear hK10
        refine wp_reg ?_
        have ho : ordTi (ahead xs k) x13 = false := by
          first
          | (rw [ordTi_0 (by omega)]; done)
          | (rw [ordTi_1 (by omega) hx29]; simpa using hc34)
        refine ol_r (r_add rfl rfl (by omega)) rfl ?_
        refine ol_r (r_move rfl) rfl ?_
        refine ol_nil (to_k0 (fun _ _ h => h) (hK7 (k + 1) _ _ ?_ ?_ (sub_cons rfl sub_nil) (sub_cons rfl (sub_cons rfl (sub_cons rfl sub_nil))) (by exact subH_nil) subH_nil))
        ·try dsimp only
         exact ⟨by omega, chkE_next hP hx13 (fTi_0 hpt ho)⟩
        ·try dsimp only
         omega
    ·refine wp_exit' (to_k0 (fun _ _ h => h) (hK5 _ _ _ _ _ ?_))
     clear hK5
     refine wp_seq' fun K18 hK18 => ?_
     refine wp_reg ?_
     refine ol_r (r_assign rfl) rfl ?_
     refine ol_nil (to_k0 (fun _ _ h => h) (hK18 _ _ _ _ _ ?_))
     clear hK18
     refine hQ.ret (rvs1 (rv_t rfl)) (fun _ _ h => h) fun w hb hs hB hkd => ?_
     exact ⟨by rw [chkT_g (by omega), chkE_end hP (by omega)], hb⟩
theorem tile_ne (x : TileR) : eqs [Value.int .i64 x.1, .int .i64 x.2] [.int .i64 x.1, .int .i64 x.2] = true := by simp [eqs, eqV]
end Go.Proofs.Ytjflbnbofedlkaa

/-
  Groups of tiles that are neighbours. No program stands here.
-/


namespace Go.Proofs.Ytjflbnbofedlkaa
open Hx
set_option linter.unusedVariables false
set_option linter.unusedSimpArgs false
abbrev TB := List (TileR × Bool)
def isT (D : TB) (t : TileR) : Bool := (pO D t).getD false
theorem isT_pS (D : TB) (o x : TileR) (b : Bool) : isT (pS D o b) x = if o = x then b else isT D x := by
  unfold isT; rw [pO_pS]; split <;> rfl
theorem isT_pD {D : TB} (h : (pKeys D).Nodup) (o x : TileR) : isT (pD D o) x = if o = x then false else isT D x := by
  unfold isT; rw [pO_pD _ _ h]; split <;> rfl
theorem isT_nil (x : TileR) : isT [] x = false := rfl
/-- The four neighbours, as the program and as the reference list them. -/
def nbP (x : TileR) : List TileR := [(x.1 + 1, x.2), (x.1 - 1, x.2), (x.1, x.2 + 1), (x.1, x.2 - 1)]
def nbR (x : TileR) : List TileR := [(x.1 - 1, x.2), (x.1 + 1, x.2), (x.1, x.2 - 1), (x.1, x.2 + 1)]
def Nb (x o : TileR) : Prop := o ∈ nbP x
theorem nbR_iff (x o : TileR) : o ∈ nbR x ↔ Nb x o := by
  unfold Nb nbP nbR; simp only [List.mem_cons, List.not_mem_nil, or_false]
  constructor <;> (intro h; rcases h with h | h | h | h <;> simp [h])
theorem nbP_iff (x o : TileR) : o ∈ nbP x ↔ Nb x o := Iff.rfl
structure NbL (nb : TileR → List TileR) : Prop where
  iff : ∀ x o, o ∈ nb x ↔ Nb x o
  four : ∀ x, (nb x).length = 4
theorem nbl_P : NbL nbP := ⟨nbP_iff, fun _ => rfl⟩
theorem nbl_R : NbL nbR := ⟨nbR_iff, fun _ => rfl⟩
inductive Rch (S : TileR → Bool) (t : TileR) : TileR → Prop
  | refl : Rch S t t
  | step {x o : TileR} : Rch S t x → Nb x o → S o = true → Rch S t o
/-- A group that is being gathered: k of its tiles are done, of the next one j neighbours. -/
structure Grp (nb : TileR → List TileR) (S0 : TileR → Bool) (t : TileR) (S : TileR → Bool) (g : List TileR) (k j : Nat) : Prop where
  nd : g.Nodup
  here : t ∈ g
  inn : ∀ x ∈ g, S0 x = true
  left : ∀ x, S x = true ↔ S0 x = true ∧ x ∉ g
  rch : ∀ x ∈ g, Rch S0 t x
  full : ∀ i x, i < k → g[i]? = some x → ∀ o, Nb x o → S0 o = true → o ∈ g
  part : ∀ x, g[k]? = some x → ∀ o ∈ (nb x).take j, S0 o = true → o ∈ g
  le : k ≤ g.length
section
variable {nb : TileR → List TileR} {S0 S : TileR → Bool} {t : TileR} {g : List TileR} {k j : Nat}
theorem Grp.start (h : S0 t = true) (hS : ∀ x, S x = if t = x then false else S0 x) : Grp nb S0 t S [t] 0 0 := by
  refine ⟨by simp, by simp, fun x hx => by simp at hx; subst hx; exact h, fun x => ?_, fun x hx => by simp at hx; subst hx; exact .refl, fun i x hi => by omega, fun x _ o ho => by simp at ho, by simp⟩
  rw [hS]
  by_cases he : t = x
  · subst he; simp
  · rw [if_neg he]; simp [Ne.symm he]
theorem Grp.len (h : Grp nb S0 t S g k j) {l : List TileR} (hl : ∀ x, S0 x = true → x ∈ l) : g.length ≤ l.length := h.nd.length_le_of_subset fun x hx => hl x (h.inn x hx)
theorem Grp.take (hn : NbL nb) (h : Grp nb S0 t S g k j) {x o : TileR} (hx : g[k]? = some x) (ho : (nb x)[j]? = some o) (hS : S o = true) {S' : TileR → Bool} (hS' : ∀ z, S' z = if o = z then false else S z) : Grp nb S0 t S' (g ++ [o]) k (j + 1) := by
  have hk := (List.getElem?_eq_some_iff.1 hx).1
  have ho1 := (h.left o).1 hS
  refine ⟨?_, by simp [h.here], ?_, ?_, ?_, ?_, ?_, by simp; omega⟩
  · refine List.nodup_append.2 ⟨h.nd, by simp, fun a ha b hb => ?_⟩
    simp at hb; subst hb
    intro he; subst he; exact ho1.2 ha
  · intro z hz
    rcases List.mem_append.1 hz with hz | hz
    · exact h.inn z hz
    · simp at hz; subst hz; exact ho1.1
  · intro z
    rw [hS']
    by_cases he : o = z
    · subst he; simp
    · rw [if_neg he, h.left]; simp [Ne.symm he]
  · intro z hz
    rcases List.mem_append.1 hz with hz | hz
    · exact h.rch z hz
    · simp at hz; subst hz
      exact .step (h.rch x (List.mem_of_getElem? hx)) ((hn.iff _ _).1 (List.mem_of_getElem? ho)) ho1.1
  · intro i z hi hz u hu hSu
    rw [List.getElem?_append_left (by omega)] at hz
    exact List.mem_append_left _ (h.full i z hi hz u hu hSu)
  · intro z hz u hu hSu
    rw [List.getElem?_append_left (by omega), hx] at hz
    cases hz
    rw [List.take_add_one, ho] at hu
    rcases List.mem_append.1 hu with hu | hu
    · exact List.mem_append_left _ (h.part x hx u hu hSu)
    · simp at hu; subst hu; simp
theorem Grp.skip (h : Grp nb S0 t S g k j) {x o : TileR} (hx : g[k]? = some x) (ho : (nb x)[j]? = some o) (hS : S o = false) : Grp nb S0 t S g k (j + 1) := by
  refine ⟨h.nd, h.here, h.inn, h.left, h.rch, h.full, fun z hz u hu hSu => ?_, h.le⟩
  rw [hx] at hz; cases hz
  rw [List.take_add_one, ho] at hu
  rcases List.mem_append.1 hu with hu | hu
  · exact h.part x hx u hu hSu
  · simp at hu; subst hu
    by_cases hm : u ∈ g
    · exact hm
    · rw [(h.left u).2 ⟨hSu, hm⟩] at hS; cases hS
theorem Grp.next (hn : NbL nb) (h : Grp nb S0 t S g k 4) {x : TileR} (hx : g[k]? = some x) : Grp nb S0 t S g (k + 1) 0 := by
  have hk := (List.getElem?_eq_some_iff.1 hx).1
  refine ⟨h.nd, h.here, h.inn, h.left, h.rch, fun i z hi hz u hu hSu => ?_, fun z _ u hu => by simp at hu, by omega⟩
  by_cases hik : i < k
  · exact h.full i z hik hz u hu hSu
  · obtain rfl : i = k := by omega
    rw [hx] at hz; cases hz
    exact h.part x hx u (by rw [List.take_of_length_le (by rw [hn.four]; omega)]; exact (hn.iff _ _).2 hu) hSu
theorem Grp.all (h : Grp nb S0 t S g k j) (hk : g.length ≤ k) (x : TileR) : x ∈ g ↔ Rch S0 t x := by
  refine ⟨h.rch x, fun hr => ?_⟩
  induction hr with
  | refl => exact h.here
  | step hr hnb hS ih =>
    obtain ⟨i, hi, he⟩ := List.mem_iff_getElem.1 ih
    exact h.full i _ (by omega) (by rw [List.getElem?_eq_getElem hi, he]) _ hnb hS
end
/-! #### all groups -/
open Classical in
noncomputable def grpOf (l : List TileR) (S : TileR → Bool) (t : TileR) : List TileR := l.filter fun x => decide (Rch S t x)
theorem Rch.inn {S : TileR → Bool} {t x : TileR} (h : Rch S t x) (ht : S t = true) : S x = true := by
  induction h with
  | refl => exact ht
  | step _ _ h _ => exact h
theorem grpOf_mem {l : List TileR} {S : TileR → Bool} {t x : TileR} (hl : ∀ x, S x = true → x ∈ l) (ht : S t = true) : x ∈ grpOf l S t ↔ Rch S t x := by
  unfold grpOf
  rw [List.mem_filter]
  exact ⟨fun h => by simpa using h.2, fun h => ⟨hl x (h.inn ht), by simpa using h⟩⟩
theorem TotO.irrefl {α : Type} {lt : α → α → Bool} (h : TotO lt) (a : α) : lt a a = false := by
  cases h1 : lt a a with
  | false => rfl
  | true => rw [h.asym a a h1] at h1; cases h1
theorem nodup_of_lt {l : List TileR} (hs : l.Pairwise fun a b => tlt a b = true) : l.Nodup := hs.imp fun {a b} h he => by
  subst he; have := tlt_tot.asym _ _ h; rw [h] at this; cases this
theorem Grp.perm {nb : TileR → List TileR} {S0 S : TileR → Bool} {t : TileR} {g l : List TileR} {k j : Nat} (h : Grp nb S0 t S g k j) (hk : g.length ≤ k) (hs : l.Pairwise fun a b => tlt a b = true) (hl : ∀ x, S0 x = true → x ∈ l) : g.Perm (grpOf l S0 t) :=
  (List.perm_ext_iff_of_nodup h.nd ((nodup_of_lt hs).sublist List.filter_sublist)).2 fun x => (h.all hk x).trans (grpOf_mem hl (h.inn t h.here)).symm
/-- What is left, and the greatest group so far. -/
noncomputable def clS (l : List TileR) (s : (TileR → Bool) × List TileR) (t : TileR) : (TileR → Bool) × List TileR :=
  if s.1 t = true then (fun x => s.1 x && !(grpOf l s.1 t).contains x, if (grpOf l s.1 t).length > s.2.length then grpOf l s.1 t else s.2) else s
def innT (l : List TileR) (x : TileR) : Bool := l.contains x && (nbP x).all fun o => l.contains o
noncomputable def clN (l : List TileR) (k : Nat) : (TileR → Bool) × List TileR := (l.take k).foldl (clS l) (innT l, [])
theorem clN_succ {l : List TileR} {k : Nat} {t : TileR} (h : l[k]? = some t) : clN l (k + 1) = clS l (clN l k) t := by
  rw [clN, clN, List.take_add_one, h, List.foldl_append]; rfl
theorem clN_inn (l : List TileR) : ∀ k x, (clN l k).1 x = true → x ∈ l
  | 0, x, h => by
    have : innT l x = true := h
    unfold innT at this; simp at this; exact this.1
  | k + 1, x, h => by
    by_cases hk : k < l.length
    · rw [clN_succ (List.getElem?_eq_getElem hk), clS] at h
      split at h
      · simp only [Bool.and_eq_true] at h
        exact clN_inn l k x h.1
      · exact clN_inn l k x h
    · have : clN l (k + 1) = clN l k := by rw [clN, clN, List.take_of_length_le (by omega), List.take_of_length_le (by omega)]
      rw [this] at h; exact clN_inn l k x h
/-- What a walk over the tiles holds: the map tells what is left, the list is the greatest group. -/
structure Clu (l : List TileR) (k : Nat) (S : TileR → Bool) (b : List TileR) : Prop where
  left : ∀ x, S x = (clN l k).1 x
  best : b.Perm (clN l k).2
theorem Clu.init {l : List TileR} {S : TileR → Bool} (h : ∀ x, S x = innT l x) : Clu l 0 S [] := ⟨h, List.Perm.refl _⟩
theorem Clu.inn {l : List TileR} {k : Nat} {S : TileR → Bool} {b : List TileR} (h : Clu l k S b) {x : TileR} (hx : S x = true) : x ∈ l := clN_inn l k x (by rw [← h.left]; exact hx)
theorem Clu.skip {l : List TileR} {k : Nat} {S : TileR → Bool} {b : List TileR} (h : Clu l k S b) {t : TileR} (ht : l[k]? = some t) (hS : S t = false) : Clu l (k + 1) S b := by
  have : clN l (k + 1) = clN l k := by rw [clN_succ ht, clS, if_neg]; rw [← h.left, hS]; simp
  exact ⟨by rw [this]; exact h.left, by rw [this]; exact h.best⟩
theorem Clu.ext {l : List TileR} {k : Nat} {S : TileR → Bool} {b : List TileR} (h : Clu l k S b) : S = (clN l k).1 := funext h.left
theorem Clu.group {nb : TileR → List TileR} {l : List TileR} {k i j : Nat} {S S' : TileR → Bool} {b g : List TileR} (h : Clu l k S b) {t : TileR} (hs : l.Pairwise fun a b => tlt a b = true) (ht : l[k]? = some t) (hg : Grp nb S t S' g i j) (hi : g.length ≤ i) (b' : List TileR) (hb : b' = if g.length > b.length then g else b) : Clu l (k + 1) S' b' := by
  have hp := hg.perm hi hs (fun x hx => h.inn hx)
  have hSt := hg.inn t hg.here
  obtain rfl := h.ext
  have e : clN l (k + 1) = (fun x => (clN l k).1 x && !(grpOf l (clN l k).1 t).contains x, if (grpOf l (clN l k).1 t).length > (clN l k).2.length then grpOf l (clN l k).1 t else (clN l k).2) := by
    rw [clN_succ ht, clS, if_pos hSt]
  refine ⟨fun x => ?_, ?_⟩
  · rw [e]
    show S' x = ((clN l k).1 x && !(grpOf l (clN l k).1 t).contains x)
    rw [Bool.eq_iff_iff, hg.left, Bool.and_eq_true, Bool.not_eq_true', ← Bool.not_eq_true, List.contains_iff_mem, hp.mem_iff]
  · rw [e, hb]
    show List.Perm _ (if _ then _ else _)
    rw [← hp.length_eq, ← h.best.length_eq]
    split
    · exact hp
    · exact h.best
theorem clu_len {l : List TileR} {k : Nat} {S : TileR → Bool} {b : List TileR} (h : Clu l k S b) (hs : l.Pairwise fun a b => tlt a b = true) : b.length ≤ l.length := by
  rw [h.best.length_eq]
  clear h
  have hf : ∀ S t, (grpOf l S t).length ≤ l.length := fun S t => List.length_filter_le _ _
  unfold clN
  suffices ∀ (q : List TileR) (s : (TileR → Bool) × List TileR), s.2.length ≤ l.length → (q.foldl (clS l) s).2.length ≤ l.length from this _ _ (by simp)
  intro q
  induction q with
  | nil => intro s h; exact h
  | cons x q ih =>
    intro s h
    refine ih _ ?_
    unfold clS
    split
    · dsimp only; split
      · exact hf _ _
      · exact h
    · exact h
/-! #### inner tiles -/
theorem innT_R (l : List TileR) (x : TileR) : innT l x = (l.contains x && (nbR x).all fun o => l.contains o) := by
  unfold innT
  congr 1
  rw [Bool.eq_iff_iff, List.all_eq_true, List.all_eq_true]
  exact ⟨fun h o ho => h o ((nbR_iff _ _).1 ho), fun h o ho => h o ((nbR_iff _ _).2 ho)⟩
/-- The inner ones among the first k. -/
def InnK (nb : TileR → List TileR) (l : List TileR) (k : Nat) (S : TileR → Bool) : Prop := ∀ x, S x = ((l.take k).contains x && (nb x).all fun o => l.contains o)
theorem InnK.zero (nb : TileR → List TileR) (l : List TileR) : InnK nb l 0 (isT []) := fun x => by simp [isT_nil]
theorem contains_succ {l : List TileR} {k : Nat} {t : TileR} (h : l[k]? = some t) (x : TileR) : (l.take (k + 1)).contains x = ((l.take k).contains x || decide (t = x)) := by
  rw [List.take_add_one, h, Bool.eq_iff_iff]
  simp only [List.contains_iff_mem, Bool.or_eq_true, decide_eq_true_eq, List.mem_append]
  simp [eq_comm]
theorem InnK.put {nb : TileR → List TileR} {l : List TileR} {k : Nat} {S S' : TileR → Bool} (h : InnK nb l k S) {t : TileR} (ht : l[k]? = some t) (hS' : ∀ x, S' x = if t = x then (nb t).all (fun o => l.contains o) else S x) : InnK nb l (k + 1) S' := fun x => by
  rw [hS', contains_succ ht]
  by_cases he : t = x
  · subst he; simp
  · rw [if_neg he, h x]; simp [he]
theorem InnK.skip {nb : TileR → List TileR} {l : List TileR} {k : Nat} {S : TileR → Bool} (h : InnK nb l k S) {t : TileR} (ht : l[k]? = some t) (hn : (nb t).all (fun o => l.contains o) = false) : InnK nb l (k + 1) S := fun x => by
  rw [contains_succ ht, h x]
  by_cases he : t = x
  · subst he; rw [hn]; simp
  · simp [he]
theorem InnK.endP {l : List TileR} {k : Nat} {S : TileR → Bool} (h : InnK nbP l k S) (hk : l.length ≤ k) (x : TileR) : S x = innT l x := by
  rw [h x, List.take_of_length_le hk]; rfl
theorem InnK.endR {l : List TileR} {k : Nat} {S : TileR → Bool} (h : InnK nbR l k S) (hk : l.length ≤ k) (x : TileR) : S x = innT l x := by
  rw [h x, List.take_of_length_le hk, innT_R]
/-- The tiles of the front of a list, as a map. -/
def AllK (l : List TileR) (k : Nat) (D : TB) : Prop := ∀ x, isT D x = (l.take k).contains x
theorem AllK.zero (l : List TileR) : AllK l 0 [] := fun x => by simp [isT_nil]
theorem AllK.put {l : List TileR} {k : Nat} {D : TB} (h : AllK l k D) {t : TileR} (ht : l[k]? = some t) : AllK l (k + 1) (pS D t true) := fun x => by
  rw [isT_pS, contains_succ ht, h x]
  by_cases he : t = x
  · subst he; simp
  · simp [he]
theorem AllK.all {l : List TileR} {k : Nat} {D : TB} (h : AllK l k D) (hk : l.length ≤ k) (x : TileR) : isT D x = l.contains x := by rw [h x, List.take_of_length_le hk]
/-! #### lists that are right -/
theorem chkE_run {xs : List TileR} : ∀ {p : Option TileR}, chkE fTi p xs = 0 → (∀ x ∈ xs, ptB x.1 x.2 = true) ∧ (∀ y x, p = some y → xs.head? = some x → tlt y x = true) ∧ xs.Pairwise fun a b => tlt a b = true := by
  induction xs with
  | nil => intro p _; exact ⟨fun x h => (by cases h), fun y x _ h => (by cases h), List.Pairwise.nil⟩
  | cons a r ih =>
    intro p h
    have h0 : fTi p a = 0 := by
      by_cases h0 : fTi p a = 0
      · exact h0
      · rw [chkE, if_pos h0] at h; exact (h0 h).elim
    rw [chkE, if_neg (fun h => h h0)] at h
    obtain ⟨i1, i2, i3⟩ := ih h
    have h1 := fTi_inv h0
    refine ⟨fun x hx => ?_, fun y x hp hx => ?_, List.pairwise_cons.2 ⟨fun x hx => ?_, i3⟩⟩
    · rcases List.mem_cons.1 hx with rfl | hx
      · exact h1.1
      · exact i1 x hx
    · simp at hx; subst hx; subst hp
      have := h1.2; unfold ordTi at this; simpa using this
    · cases r with
      | nil => cases hx
      | cons b r =>
        have hb := i2 a b rfl rfl
        rcases List.mem_cons.1 hx with rfl | hx
        · exact hb
        · exact tlt_tot.trans _ _ _ hb ((List.pairwise_cons.1 i3).1 x hx)
theorem chkT_run {xs : List TileR} (h : chkT xs = 0) : xs.length ≤ 100000 ∧ (∀ x ∈ xs, ptB x.1 x.2 = true) ∧ xs.Pairwise fun a b => tlt a b = true := by
  by_cases hl : xs.length > 100000
  · rw [chkT_3 hl] at h; omega
  · rw [chkT_g hl] at h
    have := chkE_run h
    exact ⟨by omega, this.1, this.2.2⟩
/-! #### tiles in two lists -/
def bothT (a b : List TileR) : Nat := (a.filter fun x => b.contains x).length
theorem bothT_comm {a b : List TileR} (ha : a.Nodup) (hb : b.Nodup) : bothT a b = bothT b a := by
  refine List.Perm.length_eq ((List.perm_ext_iff_of_nodup (ha.sublist List.filter_sublist) (hb.sublist List.filter_sublist)).2 fun x => ?_)
  simp only [List.mem_filter, List.contains_iff_mem]
  exact and_comm
theorem bothT_succ {a b : List TileR} {k : Nat} {x : TileR} (h : a[k]? = some x) : bothT (a.take (k + 1)) b = bothT (a.take k) b + if b.contains x = true then 1 else 0 := by
  unfold bothT
  rw [List.take_add_one, h, List.filter_append, List.length_append]
  congr 1
  cases hc : b.contains x <;> simp [List.filter_cons, hc] <;> simp_all
/-! #### one after the other -/
theorem all_take {l : List TileR} {p : TileR → Bool} {j : Nat} {x : TileR} (h : l[j]? = some x) : (l.take (j + 1)).all p = ((l.take j).all p && p x) := by
  rw [List.take_add_one, h, List.all_append]; simp
theorem nb_or1 {b : Bool} {l : List TileR} {p : TileR → Bool} {j : Nat} {x : TileR} (hb : b = !(l.take j).all p) (hx : l[j]? = some x) (h : b = true) : true = !(l.take (j + 1)).all p := by
  rw [all_take hx, Bool.not_and, ← hb, h]; rfl
theorem nb_or2 {b c : Bool} {l : List TileR} {p : TileR → Bool} {j : Nat} {x : TileR} (hb : b = !(l.take j).all p) (hx : l[j]? = some x) (h : b = false) (hc : c = p x) : (!c) = !(l.take (j + 1)).all p := by
  rw [all_take hx, Bool.not_and, ← hb, h, hc]; rfl
theorem nb_end {b : Bool} {l : List TileR} {p : TileR → Bool} {j : Nat} (hb : b = !(l.take j).all p) (hj : l.length ≤ j) : b = !l.all p := by
  rw [hb, List.take_of_length_le hj]
theorem nb_all {b : Bool} {l : List TileR} {p : TileR → Bool} (hb : b = !l.all p) (h : b = false) : l.all p = true := by
  rw [h] at hb; simpa using hb
theorem nb_not {b : Bool} {l : List TileR} {p : TileR → Bool} (hb : b = !l.all p) (h : b = true) : l.all p = false := by
  rw [h] at hb; simpa using hb
/-- One tile's entry, while its neighbours are looked at. -/
def InnR (l nbl : List TileR) (x : TileR) (j : Nat) (S0 S : TileR → Bool) : Prop := ∀ z, S z = if x = z then (nbl.take j).all (fun o => l.contains o) else S0 z
theorem InnR.start {l nbl : List TileR} {x : TileR} {S0 S : TileR → Bool} (h : ∀ z, S z = if x = z then true else S0 z) : InnR l nbl x 0 S0 S := fun z => by rw [h z]; rfl
theorem InnR.no {l nbl : List TileR} {x o : TileR} {j : Nat} {S0 S S' : TileR → Bool} (h : InnR l nbl x j S0 S) (ho : nbl[j]? = some o) (hn : l.contains o = false) (hS : ∀ z, S' z = if x = z then false else S z) : InnR l nbl x (j + 1) S0 S' := fun z => by
  rw [hS z, all_take ho, hn, Bool.and_false]
  by_cases he : x = z
  · rw [if_pos he, if_pos he]
  · rw [if_neg he, if_neg he, h z, if_neg he]
theorem InnR.yes {l nbl : List TileR} {x o : TileR} {j : Nat} {S0 S : TileR → Bool} (h : InnR l nbl x j S0 S) (ho : nbl[j]? = some o) (hn : l.contains o = true) : InnR l nbl x (j + 1) S0 S := fun z => by
  rw [h z, all_take ho, hn, Bool.and_true]
theorem InnR.put {nb : TileR → List TileR} {l : List TileR} {x : TileR} {i j : Nat} {S0 S : TileR → Bool} (h : InnR l (nb x) x j S0 S) (hI : InnK nb l i S0) (hx : l[i]? = some x) (hj : (nb x).length ≤ j) : InnK nb l (i + 1) S := hI.put hx (fun z => by
  rw [h z, List.take_of_length_le hj])
end Go.Proofs.Ytjflbnbofedlkaa

/-
  The greatest square of tiles, from both ends. No program stands here.
-/

namespace Go.Proofs.Ytjflbnbofedlkaa
open Hx
set_option linter.unusedVariables false
set_option linter.unusedSimpArgs false
/-- A square of n lines and columns from a tile on, upwards (1) or downwards (-1). -/
def Sqr (σ : Int) (l : List TileR) (t : TileR) (n : Nat) : Prop := ∀ i j : Nat, i < n → j < n → (t.1 + σ * i, t.2 + σ * j) ∈ l
theorem Sqr.zero (σ : Int) (l : List TileR) (t : TileR) : Sqr σ l t 0 := fun i j h => by omega
theorem Sqr.le {σ : Int} {l : List TileR} {t : TileR} {m n : Nat} (h : Sqr σ l t n) (hm : m ≤ n) : Sqr σ l t m := fun i j hi hj => h i j (by omega) (by omega)
theorem Sqr.at0 {σ : Int} {l : List TileR} {t : TileR} {n : Nat} (h : Sqr σ l t (n + 1)) : t ∈ l := by
  have := h 0 0 (by omega) (by omega)
  simpa using this
theorem sqr_no {σ : Int} {l : List TileR} {t : TileR} (h : t ∉ l) (k : Nat) : Sqr σ l t k ↔ k ≤ 0 := by
  cases k with
  | zero => simp [Sqr.zero]
  | succ k => exact ⟨fun hs => (h hs.at0).elim, fun hk => by omega⟩
theorem sqr_succ {σ : Int} {l : List TileR} {t : TileR} {k : Nat} : Sqr σ l t (k + 1) ↔ t ∈ l ∧ Sqr σ l (t.1 + σ, t.2) k ∧ Sqr σ l (t.1, t.2 + σ) k ∧ Sqr σ l (t.1 + σ, t.2 + σ) k := by
  have e : ∀ (a : Int) (i : Nat), a + σ + σ * (i : Int) = a + σ * ((i + 1 : Nat) : Int) := fun a i => by
    rw [Int.natCast_add, Int.mul_add]; simp; omega
  constructor
  · intro h
    refine ⟨h.at0, fun i j hi hj => ?_, fun i j hi hj => ?_, fun i j hi hj => ?_⟩
    · have := h (i + 1) j (by omega) (by omega); show (t.1 + σ + σ * (i : Int), t.2 + σ * (j : Int)) ∈ l; rw [e]; exact this
    · have := h i (j + 1) (by omega) (by omega); show (t.1 + σ * (i : Int), t.2 + σ + σ * (j : Int)) ∈ l; rw [e]; exact this
    · have := h (i + 1) (j + 1) (by omega) (by omega); show (t.1 + σ + σ * (i : Int), t.2 + σ + σ * (j : Int)) ∈ l; rw [e, e]; exact this
  · rintro ⟨h0, h1, h2, h3⟩ i j hi hj
    cases i with
    | zero =>
      cases j with
      | zero => simpa using h0
      | succ j => have := h2 0 j (by omega) (by omega); simp only [e] at this; exact this
    | succ i =>
      cases j with
      | zero => have := h1 i 0 (by omega) (by omega); simp only [e] at this; exact this
      | succ j => have := h3 i j (by omega) (by omega); simp only [e] at this; exact this
theorem sqr_step {σ : Int} {l : List TileR} {t : TileR} {a b c : Nat} (ht : t ∈ l) (h1 : ∀ k, Sqr σ l (t.1 + σ, t.2) k ↔ k ≤ a) (h2 : ∀ k, Sqr σ l (t.1, t.2 + σ) k ↔ k ≤ b) (h3 : ∀ k, Sqr σ l (t.1 + σ, t.2 + σ) k ↔ k ≤ c) (k : Nat) : Sqr σ l t k ↔ k ≤ 1 + min a (min b c) := by
  cases k with
  | zero => exact ⟨fun _ => by omega, fun _ => Sqr.zero _ _ _⟩
  | succ k =>
    rw [sqr_succ, h1, h2, h3]
    exact ⟨fun h => by omega, fun h => ⟨ht, by omega, by omega, by omega⟩⟩
/-- The same square from the other end. -/
theorem sqr_turn {l : List TileR} {t : TileR} {n : Nat} : Sqr 1 l t n ↔ Sqr (-1) l (t.1 + n - 1, t.2 + n - 1) n := by
  constructor
  · intro h i j hi hj
    have := h (n - 1 - i) (n - 1 - j) (by omega) (by omega)
    rw [show (t.1 + n - 1 + -1 * (i : Int), t.2 + n - 1 + -1 * (j : Int)) = (t.1 + 1 * ((n - 1 - i : Nat) : Int), t.2 + 1 * ((n - 1 - j : Nat) : Int)) from Prod.ext (by simp; omega) (by simp; omega)]
    exact this
  · intro h i j hi hj
    have := h (n - 1 - i) (n - 1 - j) (by omega) (by omega)
    rw [show (t.1 + 1 * (i : Int), t.2 + 1 * (j : Int)) = (t.1 + n - 1 + -1 * ((n - 1 - i : Nat) : Int), t.2 + n - 1 + -1 * ((n - 1 - j : Nat) : Int)) from Prod.ext (by simp; omega) (by simp; omega)]
    exact this
/-! #### the maps of sizes -/
abbrev TN := List (TileR × Int)
def szO (D : TN) (t : TileR) : Int := (pO D t).getD 0
/-- The size at a tile, of those of its three neighbours. -/
def szT (σ : Int) (D : TN) (t : TileR) : Int := 1 + min (min (szO D (t.1 + σ, t.2)) (szO D (t.1, t.2 + σ))) (szO D (t.1 + σ, t.2 + σ))
structure SzI (σ : Int) (l : List TileR) (p : TileR → Prop) (N : Nat) (D : TN) : Prop where
  here : ∀ t, p t → ∃ m : Nat, pO D t = some (m : Int) ∧ m ≤ N ∧ ∀ k, Sqr σ l t k ↔ k ≤ m
  gone : ∀ t, ¬p t → pO D t = none
theorem SzI.nil (σ : Int) (l : List TileR) (N : Nat) : SzI σ l (fun _ => False) N [] := ⟨fun _ h => h.elim, fun _ _ => rfl⟩
theorem SzI.some {σ : Int} {l : List TileR} {p : TileR → Prop} {N : Nat} {D : TN} (h : SzI σ l p N D) {t : TileR} (hp : t ∈ l → p t) (hq : p t → t ∈ l) : ∃ m : Nat, szO D t = m ∧ m ≤ N ∧ ∀ k, Sqr σ l t k ↔ k ≤ m := by
  by_cases ht : t ∈ l
  · obtain ⟨m, h1, h2, h3⟩ := h.here t (hp ht)
    exact ⟨m, by rw [szO, h1]; rfl, h2, h3⟩
  · exact ⟨0, by rw [szO, h.gone t (fun h => ht (hq h))]; rfl, by omega, sqr_no ht⟩
theorem SzI.val {σ : Int} {l : List TileR} {p : TileR → Prop} {N : Nat} {D : TN} (h : SzI σ l p N D) {t : TileR} (ht : t ∈ l) (hq : ∀ o, p o → o ∈ l) (h1 : ∀ o, o = (t.1 + σ, t.2) ∨ o = (t.1, t.2 + σ) ∨ o = (t.1 + σ, t.2 + σ) → o ∈ l → p o) :
    ∃ m : Nat, szT σ D t = m ∧ m ≤ N + 1 ∧ 1 ≤ m ∧ ∀ k, Sqr σ l t k ↔ k ≤ m := by
  obtain ⟨a, ha, ha', hA⟩ := h.some (h1 _ (.inl rfl)) (hq _)
  obtain ⟨b, hb, hb', hB⟩ := h.some (h1 _ (.inr (.inl rfl))) (hq _)
  obtain ⟨c, hc, hc', hC⟩ := h.some (h1 _ (.inr (.inr rfl))) (hq _)
  refine ⟨1 + min a (min b c), ?_, by omega, by omega, sqr_step ht hA hB hC⟩
  rw [szT, ha, hb, hc]; omega
theorem SzI.put {σ : Int} {l : List TileR} {p : TileR → Prop} {N : Nat} {D : TN} (h : SzI σ l p N D) {t : TileR} {m : Nat} (hm : m ≤ N + 1) (hk : ∀ k, Sqr σ l t k ↔ k ≤ m) : SzI σ l (fun o => o = t ∨ p o) (N + 1) (pS D t (m : Int)) := by
  refine ⟨fun o ho => ?_, fun o ho => ?_⟩
  · rw [pO_pS]
    by_cases he : t = o
    · subst he; rw [if_pos rfl]; exact ⟨m, rfl, hm, hk⟩
    · rw [if_neg he]
      rcases ho with ho | ho
      · exact (he ho.symm).elim
      · obtain ⟨m', h1, h2, h3⟩ := h.here o ho
        exact ⟨m', h1, by omega, h3⟩
  · rw [pO_pS, if_neg (fun he => ho (.inl he.symm)), h.gone o (fun hp => ho (.inr hp))]
/-! #### the greatest, from the last tile on -/
def tqD : List TileR → TN
  | [] => []
  | t :: r => pS (tqD r) t (szT 1 (tqD r) t)
def tqG : List TileR → TileR × Int
  | [] => ((0, 0), 0)
  | t :: r => if szT 1 (tqD r) t ≥ (tqG r).2 then (t, szT 1 (tqD r) t) else tqG r
structure BestA (σ : Int) (l : List TileR) (p : TileR → Prop) (x : TileR) (s : Nat) : Prop where
  inn : p x
  is : ∀ k, Sqr σ l x k ↔ k ≤ s
  most : ∀ t, p t → ∀ k, Sqr σ l t k → k ≤ s
  first : ∀ t, p t → Sqr σ l t s → tlt t x = false
theorem tlt_up {t : TileR} : tlt t (t.1 + 1, t.2) = true ∧ tlt t (t.1, t.2 + 1) = true ∧ tlt t (t.1 + 1, t.2 + 1) = true := by simp [tlt_iff]; omega
theorem tlt_dn {t : TileR} : tlt (t.1 + -1, t.2) t = true ∧ tlt (t.1, t.2 + -1) t = true ∧ tlt (t.1 + -1, t.2 + -1) t = true := by simp [tlt_iff]; omega
/-- Neighbours to the right and above come later. -/
theorem later {l q : List TileR} {t : TileR} {r : List TileR} (hl : l = q ++ t :: r) (hs : l.Pairwise fun a b => tlt a b = true) {o : TileR} (ho : tlt t o = true) (hm : o ∈ l) : o ∈ r := by
  subst hl
  have h2 := List.pairwise_append.1 hs
  rcases List.mem_append.1 hm with h | h
  · have := h2.2.2 o h t (List.mem_cons_self ..)
    rw [tlt_tot.asym _ _ this] at ho; cases ho
  · rcases List.mem_cons.1 h with rfl | h
    · rw [tlt_tot.irrefl] at ho; cases ho
    · exact h
theorem earlier {l q : List TileR} {t : TileR} {r : List TileR} (hl : l = q ++ t :: r) (hs : l.Pairwise fun a b => tlt a b = true) {o : TileR} (ho : tlt o t = true) (hm : o ∈ l) : o ∈ q := by
  subst hl
  have h2 := List.pairwise_append.1 hs
  rcases List.mem_append.1 hm with h | h
  · exact h
  · rcases List.mem_cons.1 h with rfl | h
    · rw [tlt_tot.irrefl] at ho; cases ho
    · have := (List.pairwise_cons.1 h2.2.1).1 o h
      rw [tlt_tot.asym _ _ this] at ho; cases ho
theorem SzI.imp {σ : Int} {l : List TileR} {p q : TileR → Prop} {N : Nat} {D : TN} (h : SzI σ l p N D) (hq : ∀ t, q t ↔ p t) : SzI σ l q N D := ⟨fun t ht => h.here t ((hq t).1 ht), fun t ht => h.gone t (fun hp => ht ((hq t).2 hp))⟩
theorem tqD_is {l : List TileR} (hs : l.Pairwise fun a b => tlt a b = true) : ∀ (r q : List TileR), l = q ++ r → SzI 1 l (· ∈ r) r.length (tqD r)
  | [], q, hl => (SzI.nil 1 l 0).imp fun t => by simp
  | t :: r, q, hl => by
    have hi := tqD_is hs r (q ++ [t]) (by rw [hl]; simp)
    have hr : ∀ o ∈ r, o ∈ l := fun o ho => by rw [hl]; simp [ho]
    obtain ⟨m, h1, h2, _, h3⟩ := hi.val (t := t) (by rw [hl]; simp) hr fun o ho hm => later hl hs (by rcases ho with rfl | rfl | rfl <;> simp [tlt_up]) hm
    rw [tqD, h1]
    exact (hi.put h2 h3).imp fun o => by simp
theorem szT_is {l : List TileR} (hs : l.Pairwise fun a b => tlt a b = true) {r q : List TileR} {t : TileR} (hl : l = q ++ t :: r) : ∃ m : Nat, szT 1 (tqD r) t = m ∧ m ≤ r.length + 1 ∧ 1 ≤ m ∧ ∀ k, Sqr 1 l t k ↔ k ≤ m :=
  (tqD_is hs r (q ++ [t]) (by rw [hl]; simp)).val (t := t) (by rw [hl]; simp) (fun o ho => by rw [hl]; simp [ho]) fun o ho hm => later hl hs (by rcases ho with rfl | rfl | rfl <;> simp [tlt_up]) hm
theorem tqG_is {l : List TileR} (hs : l.Pairwise fun a b => tlt a b = true) : ∀ (r q : List TileR), l = q ++ r → r ≠ [] → ∃ s : Nat, (tqG r).2 = s ∧ s ≤ r.length ∧ BestA 1 l (· ∈ r) (tqG r).1 s
  | [], q, hl, h => (h rfl).elim
  | t :: r, q, hl, _ => by
    obtain ⟨m, h1, h2, h0, h3⟩ := szT_is hs hl
    have hpw := List.pairwise_cons.1 (List.pairwise_append.1 (hl ▸ hs)).2.1
    rw [tqG, h1]
    by_cases hr : r = []
    · subst hr
      rw [tqG, if_pos (show (m : Int) ≥ 0 by omega)]
      refine ⟨m, rfl, by simpa using h2, ⟨by simp, h3, fun o ho k hk => ?_, fun o ho hk => ?_⟩⟩
      · simp at ho; subst ho; exact (h3 k).1 hk
      · simp at ho; subst ho; exact tlt_tot.irrefl _
    · obtain ⟨s, g1, g2, g3⟩ := tqG_is hs r (q ++ [t]) (by rw [hl]; simp) hr
      rw [g1]
      by_cases hge : (m : Int) ≥ s
      · rw [if_pos hge]
        refine ⟨m, rfl, by simpa using h2, ⟨by simp, h3, fun o ho k hk => ?_, fun o ho hk => ?_⟩⟩
        · rcases List.mem_cons.1 ho with rfl | ho
          · exact (h3 k).1 hk
          · have := g3.most o ho k hk; omega
        · rcases List.mem_cons.1 ho with rfl | ho
          · exact tlt_tot.irrefl _
          · exact tlt_tot.asym _ _ (hpw.1 o ho)
      · rw [if_neg hge]
        refine ⟨s, g1, by simp; omega, ⟨by simp [g3.inn], g3.is, fun o ho k hk => ?_, fun o ho hk => ?_⟩⟩
        · rcases List.mem_cons.1 ho with rfl | ho
          · have := (h3 k).1 hk; omega
          · exact g3.most o ho k hk
        · rcases List.mem_cons.1 ho with rfl | ho
          · have := (h3 s).1 hk; omega
          · exact g3.first o ho hk
/-! #### the greatest, from the first tile on -/
def rqN (D : TN) (x : TileR) : TN := pS D x (szT (-1) D x)
def rqD (l : List TileR) : TN := l.foldl rqN []
/-- A tile whose square downwards is the greatest so far, and its size; the first of these. -/
def rqS (s : TN × TileR × Int) (x : TileR) : TN × TileR × Int := (rqN s.1 x, if szT (-1) s.1 x > s.2.2 then ((x.1 - szT (-1) s.1 x + 1, x.2 - szT (-1) s.1 x + 1), szT (-1) s.1 x) else s.2)
def rqG (l : List TileR) : TN × TileR × Int := l.foldl rqS ([], (0, 0), 0)
theorem rqG_snoc (q : List TileR) (x : TileR) : rqG (q ++ [x]) = rqS (rqG q) x := by rw [rqG, rqG, List.foldl_append]; rfl
theorem rqG_is {l : List TileR} (hs : l.Pairwise fun a b => tlt a b = true) : ∀ (n : Nat) (q r : List TileR), q.length = n → l = q ++ r → SzI (-1) l (· ∈ q) n (rqG q).1 ∧ (q = [] ∧ (rqG q).2 = ((0, 0), 0) ∨ ∃ s : Nat, (rqG q).2.2 = s ∧ s ≤ n ∧ ∃ x : TileR, (rqG q).2.1 = (x.1 - s + 1, x.2 - s + 1) ∧ BestA (-1) l (· ∈ q) x s)
  | 0, q, r, hn, hl => by
    obtain rfl := List.eq_nil_of_length_eq_zero hn
    exact ⟨(SzI.nil (-1) l 0).imp fun t => by simp, .inl ⟨rfl, rfl⟩⟩
  | n + 1, q, r, hn, hl => by
    obtain ⟨p, x, rfl⟩ : ∃ p x, q = p ++ [x] := ⟨q.dropLast, q.getLast (by intro h; subst h; simp at hn), (List.dropLast_concat_getLast _).symm⟩
    have hpn : p.length = n := by simpa using hn
    obtain ⟨hi, hb⟩ := rqG_is hs n p (x :: r) hpn (by rw [hl]; simp)
    have hl' : l = p ++ x :: r := by rw [hl]; simp
    have hin : ∀ o ∈ p, o ∈ l := fun o ho => by rw [hl']; simp [ho]
    obtain ⟨m, h1, h2, h0, h3⟩ := hi.val (t := x) (by rw [hl']; simp) hin fun o ho hm => earlier hl' hs (by rcases ho with rfl | rfl | rfl <;> simp [tlt_dn]) hm
    have hlt : ∀ o ∈ p, tlt o x = true := fun o ho => (List.pairwise_append.1 (hl' ▸ hs)).2.2 o ho x (List.mem_cons_self ..)
    rw [rqG_snoc, rqS, rqN, h1]
    refine ⟨(hi.put h2 h3).imp fun o => by simp [or_comm], .inr ?_⟩
    dsimp only
    rcases hb with ⟨rfl, hb⟩ | ⟨s, g1, g2, y, g3, g4⟩
    · rw [hb, if_pos (show (m : Int) > 0 by omega)]
      refine ⟨m, rfl, by omega, x, rfl, ⟨by simp, h3, fun o ho k hk => ?_, fun o ho hk => ?_⟩⟩
      · simp at ho; subst ho; exact (h3 k).1 hk
      · simp at ho; subst ho; exact tlt_tot.irrefl _
    · rw [g1]
      by_cases hgt : (m : Int) > s
      · rw [if_pos hgt]
        refine ⟨m, rfl, by omega, x, rfl, ⟨by simp, h3, fun o ho k hk => ?_, fun o ho hk => ?_⟩⟩
        · rcases List.mem_append.1 ho with ho | ho
          · have := g4.most o ho k hk; omega
          · simp at ho; subst ho; exact (h3 k).1 hk
        · rcases List.mem_append.1 ho with ho | ho
          · have := g4.most o ho m hk; omega
          · simp at ho; subst ho; exact tlt_tot.irrefl _
      · rw [if_neg hgt]
        refine ⟨s, g1, by omega, y, g3, ⟨by simp [g4.inn], g4.is, fun o ho k hk => ?_, fun o ho hk => ?_⟩⟩
        · rcases List.mem_append.1 ho with ho | ho
          · exact g4.most o ho k hk
          · simp at ho; subst ho; have := (h3 k).1 hk; omega
        · rcases List.mem_append.1 ho with ho | ho
          · exact g4.first o ho hk
          · simp at ho; subst ho; exact tlt_tot.asym _ _ (hlt y g4.inn)
/-- Both tell the same square. -/
theorem squares_same {l : List TileR} (hs : l.Pairwise fun a b => tlt a b = true) : tqG l = (rqG l).2 := by
  by_cases hn : l = []
  · subst hn; rfl
  obtain ⟨s, a1, _, A⟩ := tqG_is hs l [] rfl hn
  obtain ⟨_, ⟨h0, _⟩ | ⟨u, b1, _, x, b2, B⟩⟩ := rqG_is hs l.length l [] rfl (by simp)
  · exact (hn h0).elim
  have hsA := (A.is s).2 (Nat.le_refl _)
  have hsB := (B.is u).2 (Nat.le_refl _)
  have s1 : 1 ≤ s := (A.is 1).1 (fun i j hi hj => by
    have := A.inn
    obtain rfl : i = 0 := by omega
    obtain rfl : j = 0 := by omega
    simpa using this)
  have u1 : 1 ≤ u := (B.is 1).1 (fun i j hi hj => by
    have := B.inn
    obtain rfl : i = 0 := by omega
    obtain rfl : j = 0 := by omega
    simpa using this)
  have hA' := sqr_turn.1 hsA
  have mA : ((tqG l).1.1 + (s : Int) - 1, (tqG l).1.2 + (s : Int) - 1) ∈ l := Sqr.at0 (n := s - 1) (hA'.le (by omega))
  have hB' : Sqr 1 l (x.1 - (u : Int) + 1, x.2 - (u : Int) + 1) u := by
    refine sqr_turn.2 ?_
    rw [show (x.1 - (u : Int) + 1 + u - 1, x.2 - (u : Int) + 1 + u - 1) = x from Prod.ext (by simp; omega) (by simp; omega)]
    exact hsB
  have mB : (x.1 - (u : Int) + 1, x.2 - (u : Int) + 1) ∈ l := Sqr.at0 (n := u - 1) (hB'.le (by omega))
  have e1 := A.most _ mB u hB'
  have e2 := B.most _ mA s hA'
  obtain rfl : s = u := by omega
  have f1 := A.first _ mB hB'
  have f2 := B.first _ mA hA'
  rw [tlt_no] at f1 f2
  have e3 : (tqG l).1 = (x.1 - (s : Int) + 1, x.2 - (s : Int) + 1) := by
    generalize (tqG l).1 = t at *
    obtain ⟨t1, t2⟩ := t
    obtain ⟨x1, x2⟩ := x
    simp only [Prod.mk.injEq] at *
    omega
  exact Prod.ext (by rw [e3, b2]) (by rw [a1, b1])
end Go.Proofs.Ytjflbnbofedlkaa

/-
  The greatest square of tiles: both programs.
-/



namespace Go.Proofs.Ytjflbnbofedlkaa
open Go Go.RowKit Hx
set_option linter.unusedVariables false
set_option linter.unusedSimpArgs false
set_option maxRecDepth 8000
/-! #### a list backwards -/
def backL (l : List TileR) : List (Int × TileR) := l.zipIdx.reverse.map fun p => ((p.2 : Int), p.1)
theorem backL_len (l : List TileR) : (backL l).length = l.length := by simp [backL]
theorem backL_get {l : List TileR} {k : Nat} {x : TileR} (hk : k < l.length) (hx : l[l.length - 1 - k]? = some x) : (backL l)[k]? = some (((l.length - 1 - k : Nat) : Int), x) := by
  have hk' : k < l.zipIdx.length := by simpa using hk
  rw [backL, List.getElem?_map, List.getElem?_reverse hk', List.length_zipIdx, List.getElem?_zipIdx, hx]
  simp
theorem backL_inv {l : List TileR} {k : Nat} {x : Int × TileR} (h : (backL l)[k]? = some x) : k < l.length ∧ l[l.length - 1 - k]? = some x.2 := by
  have hk : k < l.length := by have := (List.getElem?_eq_some_iff.1 h).1; rwa [backL_len] at this
  have h2 : l.length - 1 - k < l.length := by omega
  rw [backL_get hk (List.getElem?_eq_getElem h2)] at h
  cases h
  exact ⟨hk, List.getElem?_eq_getElem h2⟩
def dn (n : Int) : Nat → Int
  | 0 => n - 1
  | k + 1 => dn n k - 1
theorem dn_eq (n : Int) : ∀ k, dn n k = n - 1 - k
  | 0 => by simp [dn]
  | k + 1 => by rw [dn, dn_eq n k]; omega
theorem back_iter (B b : Nat) (a : Option Addr) (n c : Nat) (xs : List TileR) (w0 : World) (hS : Rd encTile B w0 a n c xs) :
    Iter Try.prog 93 [.pointer (some ⟨b, 0, none⟩)] (fun x : Int × TileR => [.int .i64 x.1, encTile.val x.2]) (backL xs) (fun W => Below B w0 W ∧ (∃ T, Sat B W [(100, .blk b [(0, .slice a n c)] T)]) ∧ B ≤ W.heap.size) := by
  intro l J Jx W hRq hJb hJx hY h0
  have hsn := hS.len
  have hsf := hS.fit
  have hlen := backL_len xs
  obtain ⟨q1, ⟨T, q2⟩, q3⟩ := hRq 0 W h0
  have hc : Blk W.heap.size W b [(0, .slice a n c)] := q2.blk (id := 100) rfl
  refine enterI (n := 19) (args := [_, _]) Try.func93 rfl rfl rfl rfl fun Q hQ => ?_
  refine wp_seq' fun K1 hK1 => ?_
  refine wp_reg ?_
  refine ol_r (r_ldw rfl (fun w1 hb1 hs1 hB1 => Blk.loads (o := 0) hc hb1 sc45 rfl)) rfl ?_
  refine ol_r (r_len rfl sl45) rfl ?_
  refine ol_r (r_sub rfl rfl (by omega)) rfl ?_
  refine ol_r (r_assign rfl) rfl ?_
  refine ol_nil (to_k0 (fun _ _ h => h) (hK1 _ _ _ _ _ ?_))
  clear hK1
  refine wp_block' ?_
  refine wp_loopI (J := J) (fun k => [(3, .int .i64 (dn n k)), (0, .func (.yield l) #[] #[]), (1, .pointer (some ⟨b, 0, none⟩))]) (fun k => k ≤ n) (fun k => n - k) (0) ?_ ?_ ?_ ?_
  ·try dsimp only
   omega
  ·exact (sub_cons rfl (sub_cons rfl (sub_cons rfl sub_nil)))
  ·intro w hb hB
   exact hJb 0 W w h0 hb
  ·intro k W1 hI hJ
   obtain ⟨q1, ⟨T, q2⟩, q3⟩ := hRq k W1 hJ
   have hdn := dn_eq n k
   have hc : Blk W1.heap.size W1 b [(0, .slice a n c)] := q2.blk (id := 100) rfl
   have hS := hS.at q1 q3
   intro K2 hK2
   refine wp_seq' fun K3 hK3 => ?_
   refine wp_seq' fun K4 hK4 => ?_
   refine wp_reg ?_
   refine ol_r (r_move rfl) rfl ?_
   refine ol_r (r_geq rfl rfl) rfl ?_
   refine ol_nil (to_k0 (fun _ _ h => h) (hK4 _ _ _ _ _ ?_))
   clear hK4
   first | refine wp_condD rfl (fun hc8 => ?_) (fun hc8 => ?_) | refine wp_condN rfl (fun hc8 => ?_) (fun hc8 => ?_) | refine wp_condNB rfl (fun hc8 => ?_) (fun hc8 => ?_) | refine wp_cond' rfl (fun hc8 => ?_) (fun hc8 => ?_)
   ·refine wp_skip' (to_k0 (fun _ _ h => h) (hK3 _ _ _ _ _ ?_))
    clear hK3
    refine wp_seq' fun K5 hK5 => ?_
    refine wp_block' ?_
    refine wp_seq' fun K6 hK6 => ?_
    refine wp_regi rfl ?_
    refine oli_r (r_move rfl) rfl ?_
    refine oli_r (r_move rfl) rfl ?_
    refine oli_r (r_ldw rfl (fun w1 hb1 hs1 hB1 => Blk.loads (o := 0) hc hb1 sc45 rfl)) rfl ?_
    refine oli_r (r_move rfl) rfl ?_
    refine oli_ixr hS rfl rfl sl45 (by omega) rfl fun x15 hx15 => ?_
    try simp only [Int.toNat_natCast] at hx15
    refine oli_r (r_ldw rfl (fun w1 hb1 hs1 hB1 => Rd.loads hS ty42 hx15 hb1)) rfl ?_
    refine oli_yield rfl rfl rfl rfl rfl (fun w1 hb1 hs1 hB1 => ?_)
    obtain ⟨fn, tm, asg, bo, hy, hR⟩ := hY k (_, x15) w1 (backL_get (by omega) (by rw [← hx15]; congr 1; omega)) (hJb k W1 w1 hJ hb1)
    rw [show ((xs.length - 1 - k : Nat) : Int) = dn n k by omega] at hy
    refine ⟨fn, tm, asg, bo, hy, hR.mono ?_⟩
    intro e w2 he
    obtain ⟨bb, rfl, hT, hF⟩ : ∃ bb, e = .returned (.bool bb) ∧ (bb = true → J (k + 1) w2) ∧ (bb = false → Jx w2) := by
      rcases he with ⟨rfl, h⟩ | ⟨rfl, h⟩
      · exact ⟨true, rfl, fun _ => h, fun h => by cases h⟩
      · exact ⟨false, rfl, fun h => (by cases h), fun _ => h⟩
    refine ⟨_, rfl, ?_⟩
    refine oli_r (r_not rfl) rfl ?_
    refine oli_nil (to_k0 (fun _ _ h => h) (hK6 _ _ _ _ _ ?_))
    clear hK6
    first | refine wp_condD rfl (fun hc18 => ?_) (fun hc18 => ?_) | refine wp_condN rfl (fun hc18 => ?_) (fun hc18 => ?_) | refine wp_condNB rfl (fun hc18 => ?_) (fun hc18 => ?_) | refine wp_cond' rfl (fun hc18 => ?_) (fun hc18 => ?_)
    ·refine hQ.ret (fun _ _ h => h) fun w hb hs hB => ?_
     exact .inr (hJx _ _ (hF hc18) hb)
    ·refine wp_skip' (to_k0 (fun _ _ h => h) (hK5 _ _ _ _ _ ?_))
     clear hK5
     refine wp_reg ?_
     refine ol_r (r_move rfl) rfl ?_
     refine ol_r (r_sub rfl rfl (by omega)) rfl ?_
     refine ol_r (r_assign rfl) rfl ?_
     refine ol_nil (to_k0 (fun _ _ h => h) (hK2 (k + 1) _ _ _ _ ?_ ?_ (by exact (sub_cons rfl (sub_cons rfl (sub_cons rfl sub_nil)))) ?_))
     ·try dsimp only
      omega
     ·try dsimp only
      omega
     ·intro w hb hB
      exact hJb (k + 1) _ w (hT hc18) hb
   ·refine wp_exit' (hQ.fall (fun _ _ h => h) fun w hb hs hB => ?_)
    have hk : k = (backL xs).length := by omega
    exact .inl (hk ▸ hJb k _ w hJ hb)
theorem back_Backward (a : Option Addr) (n c : Nat) (w : World) :
    Calls Try.prog 65 #[.slice a n c] w fun e w' => ∃ b T, e = .returned (.func (.func 93) #[] #[.pointer (some ⟨b, 0, none⟩)]) ∧ Below w.heap.size w w' ∧ Sat w.heap.size w' [(1001, .blk b [(0, .slice a n c)] T)] := by
  refine enterQ (N := 4) (C := fun _ => True) (H := []) (B := w.heap.size) (args := [_]) Try.func65 rfl rfl rfl (Nat.le_refl _) (Sat.nil _ _) fun Q hQ => ?_
  refine wp_seq' fun K1 hK1 => ?_
  refine wp_reg ?_
  refine ol_box 1 rfl rfl rfl fun b1 => ?_
  refine ol_r (r_assign rfl) rfl ?_
  refine ol_nil (to_k0 (fun _ _ h => h) (hK1 _ _ _ _ _ ?_))
  clear hK1
  refine wp_seq' fun K2 hK2 => ?_
  refine wp_reg ?_
  refine ol_r (r_func rfl) rfl ?_
  refine ol_r (r_assign rfl) rfl ?_
  refine ol_nil (to_k0 (fun _ _ h => h) (hK2 _ _ _ _ _ ?_))
  clear hK2
  refine hQ.ret (rvs1 (rv_t rfl)) (fun _ _ h => h) fun w hb hs hB hkd => ?_
  exact ⟨_, _, rfl, hb, hs.one 1 1001 rfl ⟨rfl, rfl, Sub.out (sub_cons rfl sub_nil)⟩⟩
/-! #### squares -/
theorem mk109 : MapK Try.prog 109 encTile.val (Value.int .i64) 0 := ⟨_, _, Try.underlying109, tileK, fun _ => Try.zeroValue3 _⟩
def squareR (l : List TileR) : (TileR × Int) × Int := if chkT l ≠ 0 then (((0, 0), 0), chkT l) else (tqG l, 0)
theorem squareR_e {l : List TileR} (h : chkT l ≠ 0) : squareR l = (((0, 0), 0), chkT l) := if_pos h
theorem squareR_0 {l : List TileR} (h : chkT l = 0) : squareR l = (tqG l, 0) := if_neg (by omega)
theorem szO_bd {σ : Int} {l : List TileR} {p : TileR → Prop} {N : Nat} {D : TN} (h : SzI σ l p N D) (t : TileR) : 0 ≤ szO D t ∧ szO D t ≤ N := by
  unfold szO
  cases hp : pO D t with
  | none => simp
  | some v =>
    by_cases hpt : p t
    · obtain ⟨m, h1, h2, _⟩ := h.here t hpt
      rw [h1] at hp; cases hp
      simp; omega
    · rw [h.gone t hpt] at hp; cases hp
theorem tqG_bd {l : List TileR} (hs : l.Pairwise fun a b => tlt a b = true) {r q : List TileR} (hl : l = q ++ r) : 0 ≤ (tqG r).2 ∧ (tqG r).2 ≤ r.length := by
  by_cases hr : r = []
  · subst hr; simp [tqG]
  · obtain ⟨s, h1, h2, _⟩ := tqG_is hs r q hl hr
    rw [h1]; omega
theorem match_Square (a : Option Addr) (n c : Nat) (xs : List TileR) (w : World) (hS : Rd encTile w.heap.size w a n c xs) :
    Calls Try.prog 34 #[.slice a n c] w fun e w' => e = .returned (.tuple #[encTile.val (squareR xs).1.1, .int .i64 (squareR xs).1.2, .int .i64 (squareR xs).2]) ∧ Below w.heap.size w w' := by
  have hsn := hS.len
  have hsf := hS.fit
  have hlen := backL_len xs
  refine enterQ (N := 60) (C := fun _ => True) (H := []) (B := w.heap.size) (args := [_]) Try.func34 rfl rfl rfl (Nat.le_refl _) (Sat.nil _ _) fun Q hQ => ?_
  refine wp_seq' fun K1 hK1 => ?_
  refine wp_reg ?_
  refine ol_alloc 2 z42 rfl fun b2 => ?_
  refine ol_r (r_assign rfl) rfl ?_
  refine ol_r (r_assign rfl) rfl ?_
  refine ol_nil (to_k0 (fun _ _ h => h) (hK1 _ _ _ _ _ ?_))
  clear hK1
  refine wp_seq' fun K2 hK2 => ?_
  refine wp_seq' fun K3 hK3 => ?_
  refine wp_reg ?_
  have hdummy := trivial
  refine ol_r (r_move rfl) rfl ?_
  refine ol_call rfl rfl cb40 rfl (fun w1 hb1 hs1 hB1 => Calls.mono (match_CheckTiles _ _ _ xs _ (hS.at hb1 hB1)) ?_)
  rintro e w2 ⟨rfl, hb2⟩
  refine After.below rfl hb1 hs1 hB1 hb2 ?_
  clear hb2 hB1 hs1 hb1 w2 w1
  refine ol_r (r_assign rfl) rfl ?_
  refine ol_nil (to_k0 (fun _ _ h => h) (hK3 _ _ _ _ _ ?_))
  clear hK3
  refine wp_seq' fun K4 hK4 => ?_
  refine wp_reg ?_
  refine ol_r (r_move rfl) rfl ?_
  refine ol_r (r_neq rfl rfl) rfl ?_
  refine ol_nil (to_k0 (fun _ _ h => h) (hK4 _ _ _ _ _ ?_))
  clear hK4
  first | refine wp_condD rfl (fun hc15 => ?_) (fun hc15 => ?_) | refine wp_condN rfl (fun hc15 => ?_) (fun hc15 => ?_) | refine wp_condNB rfl (fun hc15 => ?_) (fun hc15 => ?_) | refine wp_cond' rfl (fun hc15 => ?_) (fun hc15 => ?_)
  ·refine wp_seq' fun K5 hK5 => ?_
   refine wp_reg ?_
   refine ol_r (r_build rfl (fun _ => bd42 _)) rfl ?_
   refine ol_r (r_move rfl) rfl ?_
   refine ol_store (id := 2) rfl rfl rfl rfl sz42 rfl rfl (by first | decide | exact Nat.zero_lt_succ _ | simp) ?_
   refine ol_r (r_assign rfl) rfl ?_
   refine ol_r (r_assign rfl) rfl ?_
   refine ol_nil (to_k0 (fun _ _ h => h) (hK5 _ _ _ _ _ ?_))
   clear hK5
   refine hQ.ret (rvs3 (rv_c (id := 2) (n := 2) rfl rfl ag42 rfl) (rv_t rfl) (rv_t rfl)) (fun _ _ h => h) fun w hb hs hB hkd => ?_
   exact ⟨by rw [squareR_e hc15]; rfl, hb⟩
  ·refine wp_skip' (to_k0 (fun _ _ h => h) (hK2 _ _ _ _ _ ?_))
   clear hK2
   refine wp_seq' fun K6 hK6 => ?_
   refine wp_reg ?_
   have hgood := chkT_run (Decidable.not_not.1 hc15)
   have hsrt := hgood.2.2
   refine ol_mkmapE (encTile.val) (Value.int .i64) 18 rfl fun b18 => ?_
   refine ol_alloc 6 z109 rfl fun b6 => ?_
   refine ol_store (id := 6) rfl rfl rfl rfl sz109 rfl rfl (by first | decide | exact Nat.zero_lt_succ _ | simp) ?_
   refine ol_nil (to_k0 (fun _ _ h => h) (hK6 _ _ _ _ _ ?_))
   clear hK6
   refine wp_seq' fun K7 hK7 => ?_
   refine wp_reg ?_
   refine ol_alloc 7 z42 rfl fun b7 => ?_
   refine ol_nil (to_k0 (fun _ _ h => h) (hK7 _ _ _ _ _ ?_))
   clear hK7
   refine wp_seq' fun K8 hK8 => ?_
   refine wp_reg ?_
   refine ol_alloc 8 z3 rfl fun b8 => ?_
   refine ol_store (id := 8) rfl rfl rfl rfl sz3 rfl rfl (by first | decide | exact Nat.zero_lt_succ _ | simp) ?_
   refine ol_nil (to_k0 (fun _ _ h => h) (hK8 _ _ _ _ _ ?_))
   clear hK8
   refine wp_seq' fun K9 hK9 => ?_
   refine wp_seq' fun K10 hK10 => ?_
   refine wp_reg ?_
   refine ol_r (r_move rfl) rfl ?_
   refine ol_call rfl rfl cb65 rfl (fun w1 hb1 hs1 hB1 => ?_)
   refine Calls.mono (back_Backward _ _ _ _) ?_
   rintro e w2 ⟨b0, T0, rfl, hb2, hs2⟩
   refine After.more rfl hb1 hs1 hB1 hb2 hs2 ?_
   clear hs2 hb2 hB1 hs1 hb1 w2 w1
   refine ol_nil (to_k0 (fun _ _ h => h) (hK10 _ _ _ _ _ ?_))
   clear hK10
   refine wp_block' ?_
   refine wp_rf (σ := TN × TileR × Int) (τ := Unit) (encs := fun x : Int × TileR => [.int .i64 x.1, encTile.val x.2]) (zs := backL xs) rfl cb93 (back_iter _ b0 _ _ _ _ _ hS) (by rfl) (by rfl) (by rfl) (fun _ => rfl) (fun k s => k ≤ n ∧ s.1 = tqD (xs.drop (n - k)) ∧ s.2 = tqG (xs.drop (n - k))) (fun k s => [(6, .blk b6 [(0, .map (some b18))] 109), (7, .blk b7 [(0, .int .i64 s.2.1.1), (1, .int .i64 s.2.1.2)] 42), (8, .blk b8 [(0, .int .i64 s.2.2)] 3), (18, .ob b18 (MapO (pEnc encTile.val (Value.int .i64) s.1)))]) [(2, _), (1001, _)] (fun t => False) (fun t => []) (([], (0, 0), 0)) ?_ (by exact (subH_blk rfl (sub_cons rfl sub_nil) (subH_blk rfl (sub_cons rfl (sub_cons rfl sub_nil)) (subH_blk rfl (sub_cons rfl sub_nil) (subH_same rfl subH_nil))))) (subH_same rfl (subH_same rfl subH_nil)) ?_ ?_ ?_ ?_
   ·try dsimp only
    exact ⟨Nat.zero_le _, by rw [List.drop_eq_nil_of_le (by omega)]; rfl, by rw [List.drop_eq_nil_of_le (by omega)]; rfl⟩
   ·intro k s W hI hbW hsW hBW
    exact ⟨hbW, ⟨_, hsW.one 1001 100 rfl (Ent.le_refl _)⟩, hBW⟩
   ·rintro k x ⟨D, ⟨u1, u2⟩, v⟩ B0 W hx ⟨hkn, hD, hG⟩ hbW hBW hB0
    obtain ⟨hkl, hxx⟩ := backL_inv hx
    dsimp only at hD hG ⊢
    have hpt := ptB_bd (hgood.2.1 x.2 (List.mem_of_getElem? hxx))
    have hdr : xs.drop (n - (k + 1)) = x.2 :: xs.drop (n - k) := by
      rw [drop_of (show xs[n - (k + 1)]? = some x.2 by rw [← hxx]; congr 1; omega)]; congr 2; omega
    have hsp : xs = xs.take (n - k) ++ xs.drop (n - k) := (List.take_append_drop _ _).symm
    have hbd := szO_bd (tqD_is hsrt (xs.drop (n - k)) _ hsp)
    have hgb := tqG_bd hsrt hsp
    rw [← hG] at hgb
    dsimp only at hgb
    rw [← hD] at hbd
    rw [List.length_drop] at hbd hgb
    have hbd1 := hbd (x.2.1 + 1, x.2.2)
    have hbd2 := hbd (x.2.1, x.2.2 + 1)
    have hbd3 := hbd (x.2.1 + 1, x.2.2 + 1)
    unfold szO at hbd1 hbd2 hbd3
    intro Ka11 hKa11
    simp only [alp]
    refine wp_reg ?_
    refine ol_alloc 10 z42 rfl fun b10 => ?_
    refine ol_store (id := 10) rfl rfl rfl rfl sz42 rfl rfl (by first | decide | exact Nat.zero_lt_succ _ | simp) ?_
    refine ol_nil (to_k0 (fun _ _ h => h) (hKa11 _ _ fun Wb R hbw hBw hn hr => ?_))
    refine wp_block' ?_
    refine wp_seq' fun K12 hK12 => ?_
    refine wp_regq (by kernel_rfl) (by kernel_rfl) ?_
    refine ql_r (r_ld (id := 6) rfl rfl rfl sc109) rfl ?_
    refine ql_r (r_fa (o' := 0) rfl fl42_0 rfl) rfl ?_
    refine ql_r (r_ld (id := 10) rfl rfl rfl sc3) rfl ?_
    refine ql_r (r_add rfl rfl (by omega)) rfl ?_
    refine ql_r (r_fa (o' := 1) rfl fl42_1 rfl) rfl ?_
    refine ql_r (r_ld (id := 10) rfl rfl rfl sc3) rfl ?_
    refine ql_call rfl rfl cb66 rfl (fun w1 hb1 hs1 hB1 => match_tile _ _ _) ?_
    refine ql_r (r_look1 (K := encTile.val) (V := Value.int .i64) (z := 0) (k := (x.2.1 + 1, x.2.2)) (id := 18) rfl rfl rfl mk109) rfl ?_
    refine ql_r (r_ld (id := 6) rfl rfl rfl sc109) rfl ?_
    refine ql_r (r_fa (o' := 0) rfl fl42_0 rfl) rfl ?_
    refine ql_r (r_ld (id := 10) rfl rfl rfl sc3) rfl ?_
    refine ql_r (r_fa (o' := 1) rfl fl42_1 rfl) rfl ?_
    refine ql_r (r_ld (id := 10) rfl rfl rfl sc3) rfl ?_
    refine ql_r (r_add rfl rfl (by omega)) rfl ?_
    refine ql_call rfl rfl cb66 rfl (fun w1 hb1 hs1 hB1 => match_tile _ _ _) ?_
    refine ql_r (r_look1 (K := encTile.val) (V := Value.int .i64) (z := 0) (k := (x.2.1, x.2.2 + 1)) (id := 18) rfl rfl rfl mk109) rfl ?_
    refine ql_r (r_ld (id := 6) rfl rfl rfl sc109) rfl ?_
    refine ql_r (r_fa (o' := 0) rfl fl42_0 rfl) rfl ?_
    refine ql_r (r_ld (id := 10) rfl rfl rfl sc3) rfl ?_
    refine ql_r (r_add rfl rfl (by omega)) rfl ?_
    refine ql_r (r_fa (o' := 1) rfl fl42_1 rfl) rfl ?_
    refine ql_r (r_ld (id := 10) rfl rfl rfl sc3) rfl ?_
    refine ql_r (r_add rfl rfl (by omega)) rfl ?_
    refine ql_call rfl rfl cb66 rfl (fun w1 hb1 hs1 hB1 => match_tile _ _ _) ?_
    refine ql_r (r_look1 (K := encTile.val) (V := Value.int .i64) (z := 0) (k := (x.2.1 + 1, x.2.2 + 1)) (id := 18) rfl rfl rfl mk109) rfl ?_
    refine ql_r (r_min3 rfl rfl rfl) rfl ?_
    refine ql_r (r_add rfl rfl (by omega)) rfl ?_
    refine ql_r (r_assign rfl) rfl ?_
    refine ql_nil (to_k0 (fun _ _ h => h) (hK12 _ _ _ _ _ ?_))
    clear hK12
    refine wp_seq' fun K13 hK13 => ?_
    refine wp_reg ?_
    refine ol_r (r_ld (id := 6) rfl rfl rfl sc109) rfl ?_
    refine ol_r (r_lda (id := 10) (n := 2) rfl rfl rfl ag42) rfl ?_
    refine ol_r (r_move rfl) rfl ?_
    refine ol_mapset (K := encTile.val) (V := Value.int .i64) (z := 0) (k := x.2) (id := 18) rfl rfl rfl rfl mk109 ⟨trivial, hB0 18 _ b18 rfl rfl⟩ ?_
    refine ol_nil (to_k0 (fun _ _ h => h) (hK13 _ _ _ _ _ ?_))
    clear hK13
    refine wp_seq' fun K14 hK14 => ?_
    refine wp_reg ?_
    refine ol_r (r_move rfl) rfl ?_
    refine ol_r (r_ld (id := 8) rfl rfl rfl sc3) rfl ?_
    refine ol_r (r_geq rfl rfl) rfl ?_
    refine ol_nil (to_k0 (fun _ _ h => h) (hK14 _ _ _ _ _ ?_))
    clear hK14
    first | refine wp_condD rfl (fun hc55 => ?_) (fun hc55 => ?_) | refine wp_condN rfl (fun hc55 => ?_) (fun hc55 => ?_) | refine wp_condNB rfl (fun hc55 => ?_) (fun hc55 => ?_) | refine wp_cond' rfl (fun hc55 => ?_) (fun hc55 => ?_)
    ·refine wp_reg ?_
     refine ol_r (r_lda (id := 10) (n := 2) rfl rfl rfl ag42) rfl ?_
     refine ol_r (r_move rfl) rfl ?_
     refine ol_store (id := 7) rfl rfl rfl rfl sz42 rfl rfl (by first | decide | exact Nat.zero_lt_succ _ | simp) ?_
     refine ol_store (id := 8) rfl rfl rfl rfl sz3 rfl rfl (by first | decide | exact Nat.zero_lt_succ _ | simp) ?_
     refine ol_nil (QP.of (hn ((_, (_, _), _)) _ _ ?_ (by exact (subH_blk rfl (sub_cons rfl sub_nil) (subH_blk rfl (sub_cons rfl (sub_cons rfl sub_nil)) (subH_blk rfl (sub_cons rfl sub_nil) (subH_same rfl subH_nil))))) (subH_same rfl (subH_same rfl subH_nil))) (fun _ _ h => h))
     try dsimp only
     first
     | exact ⟨by omega, by rw [hdr, tqD, ← hD]; rfl, by rw [hdr, tqG, if_pos (by rw [← hD, ← hG]; exact hc55), ← hD]; rfl⟩
     | exact ⟨by omega, by rw [hdr, tqD, ← hD]; rfl, by rw [hdr, tqG, if_neg (by rw [← hD, ← hG]; exact hc55), ← hG]⟩
    ·refine wp_skip' (QP.of (hn ((_, (_, _), _)) _ _ ?_ (by exact (subH_blk rfl (sub_cons rfl sub_nil) (subH_blk rfl (sub_cons rfl (sub_cons rfl sub_nil)) (subH_blk rfl (sub_cons rfl sub_nil) (subH_same rfl subH_nil))))) (subH_same rfl (subH_same rfl subH_nil))) (fun _ _ h => h))
     try dsimp only
     first
     | exact ⟨by omega, by rw [hdr, tqD, ← hD]; rfl, by rw [hdr, tqG, if_pos (by rw [← hD, ← hG]; exact hc55), ← hD]; rfl⟩
     | exact ⟨by omega, by rw [hdr, tqD, ← hD]; rfl, by rw [hdr, tqG, if_neg (by rw [← hD, ← hG]; exact hc55), ← hG]⟩
   ·rintro ⟨D, u, v⟩ dd ⟨hkn, hD, hG⟩
    refine (to_k0 (fun _ _ h => h) (hK9 _ _ _ _ _ ?_))
    clear hK9
    refine wp_seq' fun K15 hK15 => ?_
    refine wp_rega [(999, [(6, _), (7, _), (8, _), (18, _), (1001, _)]), (2, [(2, _)])] (by kernel_rfl) ⟨.inr (subH_same rfl (subH_same rfl (subH_same rfl (subH_same rfl (subH_same rfl subH_nil))))), ⟨.inr (subH_same rfl subH_nil), trivial⟩⟩ ?_
    refine aq_r 0 999 rfl (by kernel_rfl) (by kernel_rfl) (by kernel_rfl) (.head _) (by kernel_rfl) (by kernel_rfl) rfl (r_lda (id := 7) (n := 2) rfl rfl rfl ag42) ?_
    refine aq_r 1 999 rfl (by kernel_rfl) (by kernel_rfl) (by kernel_rfl) (.head _) (by kernel_rfl) (by kernel_rfl) rfl (r_ld (id := 8) rfl rfl rfl sc3) ?_
    refine aq_one (i := 2) (by kernel_rfl) rfl fun K16 hK16 => ?_
    refine ol_store (id := 2) rfl rfl rfl rfl sz42 rfl rfl (by first | decide | exact Nat.zero_lt_succ _ | simp) ?_
    refine ol_nil (to_k0 (fun _ _ h => h) (hK16 _ _ ⟨.inr (by repeat' first | exact subH_nil | refine subH_same rfl ?_ | (refine subH_blk rfl (by repeat' first | exact sub_nil | refine sub_cons rfl ?_) ?_)), ⟨.inl (by kernel_rfl), trivial⟩⟩ ?_))
    clear hK16
    refine aq_r 3 999 rfl (by kernel_rfl) (by kernel_rfl) (by kernel_rfl) (.head _) (by kernel_rfl) (by kernel_rfl) rfl (r_assign rfl) ?_
    refine aq_r 4 999 rfl (by kernel_rfl) (by kernel_rfl) (by kernel_rfl) (.head _) (by kernel_rfl) (by kernel_rfl) rfl (r_assign rfl) ?_
    refine aq_done (by kernel_rfl) ?_
    refine (to_k0 (fun _ _ h => h) (hK15 _ _ _ _ _ ?_))
    clear hK15
    refine hQ.ret (rvs3 (rv_c (id := 2) (n := 2) rfl rfl ag42 rfl) (rv_t rfl) (rv_t rfl)) (fun _ _ h => h) fun w hb hs hB hkd => ?_
    rw [hlen, show n - xs.length = 0 by omega, List.drop_zero] at hG
    dsimp only at hG
    exact ⟨by rw [squareR_0 (Decidable.not_not.1 hc15), ← hG]; rfl, hb⟩
   ·exact fun t dd hI => hI.elim
theorem rqS_gt {s : TN × TileR × Int} {x : TileR} {n : Int} (hn : szT (-1) s.1 x = n) (h : n > s.2.2) : rqS s x = (pS s.1 x n, (x.1 - n + 1, x.2 - n + 1), n) := by
  subst hn; rw [rqS, if_pos h]; rfl
theorem rqS_le {s : TN × TileR × Int} {x : TileR} {n : Int} (hn : szT (-1) s.1 x = n) (h : ¬n > s.2.2) : rqS s x = (pS s.1 x n, s.2) := by
  subst hn; rw [rqS, if_neg h]; rfl
theorem ref5_Square (a : Option Addr) (n c : Nat) (xs : List TileR) (w : World) (hS : Rd encTile w.heap.size w a n c xs) :
    Calls Try.prog 35 #[.slice a n c] w fun e w' => e = .returned (.tuple #[encTile.val (squareR xs).1.1, .int .i64 (squareR xs).1.2, .int .i64 (squareR xs).2]) ∧ Below w.heap.size w w' := by
  have hsn := hS.len
  have hsf := hS.fit
  refine enterQ (N := 74) (C := fun _ => True) (H := []) (B := w.heap.size) (args := [_]) Try.func35 rfl rfl rfl (Nat.le_refl _) (Sat.nil _ _) fun Q hQ => ?_
  refine wp_seq' fun K1 hK1 => ?_
  refine wp_reg ?_
  refine ol_alloc 2 z42 rfl fun b2 => ?_
  refine ol_r (r_assign rfl) rfl ?_
  refine ol_r (r_assign rfl) rfl ?_
  refine ol_nil (to_k0 (fun _ _ h => h) (hK1 _ _ _ _ _ ?_))
  clear hK1
  refine wp_seq' fun K2 hK2 => ?_
  refine wp_seq' fun K3 hK3 => ?_
  refine wp_reg ?_
  refine ol_r (r_move rfl) rfl ?_
  refine ol_call rfl rfl cb41 rfl (fun w1 hb1 hs1 hB1 => Calls.mono (ref5_CheckTiles _ _ _ xs _ (hS.at hb1 hB1)) ?_)
  rintro e w2 ⟨rfl, hb2⟩
  refine After.below rfl hb1 hs1 hB1 hb2 ?_
  clear hb2 hB1 hs1 hb1 w2 w1
  refine ol_r (r_assign rfl) rfl ?_
  refine ol_nil (to_k0 (fun _ _ h => h) (hK3 _ _ _ _ _ ?_))
  clear hK3
  refine wp_seq' fun K4 hK4 => ?_
  refine wp_reg ?_
  refine ol_r (r_move rfl) rfl ?_
  refine ol_r (r_neq rfl rfl) rfl ?_
  refine ol_nil (to_k0 (fun _ _ h => h) (hK4 _ _ _ _ _ ?_))
  clear hK4
  first | refine wp_condD rfl (fun hc15 => ?_) (fun hc15 => ?_) | refine wp_condN rfl (fun hc15 => ?_) (fun hc15 => ?_) | refine wp_condNB rfl (fun hc15 => ?_) (fun hc15 => ?_) | refine wp_cond' rfl (fun hc15 => ?_) (fun hc15 => ?_)
  ·refine wp_seq' fun K5 hK5 => ?_
   refine wp_reg ?_
   refine ol_r (r_build rfl (fun _ => bd42 _)) rfl ?_
   refine ol_r (r_move rfl) rfl ?_
   refine ol_store (id := 2) rfl rfl rfl rfl sz42 rfl rfl (by first | decide | exact Nat.zero_lt_succ _ | simp) ?_
   refine ol_r (r_assign rfl) rfl ?_
   refine ol_r (r_assign rfl) rfl ?_
   refine ol_nil (to_k0 (fun _ _ h => h) (hK5 _ _ _ _ _ ?_))
   clear hK5
   refine hQ.ret (rvs3 (rv_c (id := 2) (n := 2) rfl rfl ag42 rfl) (rv_t rfl) (rv_t rfl)) (fun _ _ h => h) fun w hb hs hB hkd => ?_
   exact ⟨by rw [squareR_e hc15]; rfl, hb⟩
  ·refine wp_skip' (to_k0 (fun _ _ h => h) (hK2 _ _ _ _ _ ?_))
   clear hK2
   refine wp_seq' fun K6 hK6 => ?_
   refine wp_reg ?_
   have hgood := chkT_run (Decidable.not_not.1 hc15)
   have hsrt := hgood.2.2
   refine ol_mkmapE (encTile.val) (Value.int .i64) 18 rfl fun b18 => ?_
   refine ol_r (r_assign rfl) rfl ?_
   refine ol_nil (to_k0 (fun _ _ h => h) (hK6 _ _ _ _ _ ?_))
   clear hK6
   refine wp_seq' fun K7 hK7 => ?_
   refine wp_reg ?_
   refine ol_r (r_build rfl (fun _ => bd42 _)) rfl ?_
   refine ol_alloc 7 z42 rfl fun b7 => ?_
   refine ol_store (id := 7) rfl rfl rfl rfl sz42 rfl rfl (by first | decide | exact Nat.zero_lt_succ _ | simp) ?_
   refine ol_r (r_assign rfl) rfl ?_
   refine ol_nil (to_k0 (fun _ _ h => h) (hK7 _ _ _ _ _ ?_))
   clear hK7
   refine wp_seq' fun K8 hK8 => ?_
   refine wp_seq' fun K9 hK9 => ?_
   refine wp_reg ?_
   refine ol_r (r_move rfl) rfl ?_
   refine ol_r (r_len rfl sl45) rfl ?_
   refine ol_r (r_move rfl) rfl ?_
   refine ol_nil (to_k0 (fun _ _ h => h) (hK9 _ _ _ _ _ ?_))
   clear hK9
   refine wp_block' ?_
   apply wp_loopM (σ := Nat × TN × TileR × Int) (fun s => s.1 ≤ n ∧ s.2 = rqG (xs.take s.1)) (fun s => [(22, .int .i64 s.1), (8, .int .i64 s.2.2.2)]) [(2, _), (3, _), (4, _), (6, _), (7, _), (20, _), (21, _)] (fun s => [(7, .blk b7 [(0, .int .i64 s.2.2.1.1), (1, .int .i64 s.2.2.1.2)] 42), (18, .ob b18 (MapO (pEnc encTile.val (Value.int .i64) s.2.1)))]) [(2, _)] (fun s => n - s.1) ((0, [], (0, 0), 0))
   ·try dsimp only
    exact ⟨Nat.zero_le _, rfl⟩
   ·exact (sub_cons rfl (sub_cons rfl sub_nil))
   ·exact (sub_cons rfl (sub_cons rfl (sub_cons rfl (sub_cons rfl (sub_cons rfl (sub_cons rfl (sub_cons rfl sub_nil)))))))
   ·exact (subH_blk rfl (sub_cons rfl (sub_cons rfl sub_nil)) (subH_same rfl subH_nil))
   ·exact (subH_same rfl subH_nil)
   ·rintro ⟨k, D, ⟨u1, u2⟩, v⟩ ⟨hkn, hG⟩
    dsimp only at hG hkn ⊢
    intro K10 hK10
    refine wp_seq' fun K11 hK11 => ?_
    refine wp_reg ?_
    refine ol_r (r_lss rfl rfl) rfl ?_
    refine ol_nil (to_k0 (fun _ _ h => h) (hK11 _ _ _ _ _ ?_))
    clear hK11
    refine wp_seq' fun K12 hK12 => ?_
    first | refine wp_condD rfl (fun hc23 => ?_) (fun hc23 => ?_) | refine wp_condN rfl (fun hc23 => ?_) (fun hc23 => ?_) | refine wp_condNB rfl (fun hc23 => ?_) (fun hc23 => ?_) | refine wp_cond' rfl (fun hc23 => ?_) (fun hc23 => ?_)
    ·refine wp_skip' (to_k0 (fun _ _ h => h) (hK12 _ _ _ _ _ ?_))
     clear hK12
     refine wp_seq' fun K13 hK13 => ?_
     refine wp_block' ?_
     refine wp_seq' fun K14 hK14 => ?_
     refine wp_reg ?_
     refine ol_ixr hS rfl rfl sl45 (by omega) rfl fun x24 hx24 => ?_
     try simp only [Int.toNat_natCast] at hx24
     refine ol_r (r_ldw rfl (fun w1 hb1 hs1 hB1 => Rd.loads hS ty42 hx24 hb1)) rfl ?_
     refine ol_alloc 10 z42 rfl fun b10 => ?_
     refine ol_store (id := 10) rfl rfl rfl rfl sz42 rfl rfl (by first | decide | exact Nat.zero_lt_succ _ | simp) ?_
     refine ol_nil (to_k0 (fun _ _ h => h) (hK14 _ _ _ _ _ ?_))
     clear hK14
     refine wp_seq' fun K15 hK15 => ?_
     refine wp_regq (by kernel_rfl) (by kernel_rfl) ?_
     have hpt := ptB_bd (hgood.2.1 x24 (List.mem_of_getElem? hx24))
     have hkl : k < n := by omega
     have hbd := szO_bd (rqG_is hsrt k (xs.take k) (xs.drop k) (by rw [List.length_take]; omega) (List.take_append_drop _ _).symm).1
     rw [← hG] at hbd
     dsimp only at hbd
     have hbd1 := hbd (x24.1 - 1, x24.2)
     have hbd2 := hbd (x24.1, x24.2 - 1)
     have hbd3 := hbd (x24.1 - 1, x24.2 - 1)
     unfold szO at hbd1 hbd2 hbd3
     refine ql_r (r_move rfl) rfl ?_
     refine ql_r (r_fa (o' := 0) rfl fl42_0 rfl) rfl ?_
     refine ql_r (r_ld (id := 10) rfl rfl rfl sc3) rfl ?_
     refine ql_r (r_sub rfl rfl (by omega)) rfl ?_
     refine ql_r (r_fa (o' := 1) rfl fl42_1 rfl) rfl ?_
     refine ql_r (r_ld (id := 10) rfl rfl rfl sc3) rfl ?_
     refine ql_r (r_build rfl (fun _ => bd42_0_1 _ _ _)) rfl ?_
     refine ql_r (r_look1 (K := encTile.val) (V := Value.int .i64) (z := 0) (k := (x24.1 - 1, x24.2)) (id := 18) rfl rfl rfl mk109) rfl ?_
     refine ql_r (r_move rfl) rfl ?_
     refine ql_r (r_fa (o' := 0) rfl fl42_0 rfl) rfl ?_
     refine ql_r (r_ld (id := 10) rfl rfl rfl sc3) rfl ?_
     refine ql_r (r_fa (o' := 1) rfl fl42_1 rfl) rfl ?_
     refine ql_r (r_ld (id := 10) rfl rfl rfl sc3) rfl ?_
     refine ql_r (r_sub rfl rfl (by omega)) rfl ?_
     refine ql_r (r_build rfl (fun _ => bd42_0_1 _ _ _)) rfl ?_
     refine ql_r (r_look1 (K := encTile.val) (V := Value.int .i64) (z := 0) (k := (x24.1, x24.2 - 1)) (id := 18) rfl rfl rfl mk109) rfl ?_
     refine ql_r (r_move rfl) rfl ?_
     refine ql_r (r_fa (o' := 0) rfl fl42_0 rfl) rfl ?_
     refine ql_r (r_ld (id := 10) rfl rfl rfl sc3) rfl ?_
     refine ql_r (r_sub rfl rfl (by omega)) rfl ?_
     refine ql_r (r_fa (o' := 1) rfl fl42_1 rfl) rfl ?_
     refine ql_r (r_ld (id := 10) rfl rfl rfl sc3) rfl ?_
     refine ql_r (r_sub rfl rfl (by omega)) rfl ?_
     refine ql_r (r_build rfl (fun _ => bd42_0_1 _ _ _)) rfl ?_
     refine ql_r (r_look1 (K := encTile.val) (V := Value.int .i64) (z := 0) (k := (x24.1 - 1, x24.2 - 1)) (id := 18) rfl rfl rfl mk109) rfl ?_
     refine ql_r (r_min3 rfl rfl rfl) rfl ?_
     refine ql_r (r_add rfl rfl (by omega)) rfl ?_
     refine ql_r (r_assign rfl) rfl ?_
     refine ql_nil (to_k0 (fun _ _ h => h) (hK15 _ _ _ _ _ ?_))
     clear hK15
     refine wp_seq' fun K16 hK16 => ?_
     refine wp_reg ?_
     refine ol_r (r_move rfl) rfl ?_
     refine ol_r (r_lda (id := 10) (n := 2) rfl rfl rfl ag42) rfl ?_
     refine ol_r (r_move rfl) rfl ?_
     refine ol_mapset (K := encTile.val) (V := Value.int .i64) (z := 0) (k := x24) (id := 18) rfl rfl rfl rfl mk109 trivial ?_
     refine ol_nil (to_k0 (fun _ _ h => h) (hK16 _ _ _ _ _ ?_))
     clear hK16
     refine wp_seq' fun K17 hK17 => ?_
     refine wp_reg ?_
     refine ol_r (r_move rfl) rfl ?_
     refine ol_r (r_move rfl) rfl ?_
     refine ol_r (r_gtr rfl rfl) rfl ?_
     refine ol_nil (to_k0 (fun _ _ h => h) (hK17 _ _ _ _ _ ?_))
     clear hK17
     first | refine wp_condD rfl (fun hc58 => ?_) (fun hc58 => ?_) | refine wp_condN rfl (fun hc58 => ?_) (fun hc58 => ?_) | refine wp_condNB rfl (fun hc58 => ?_) (fun hc58 => ?_) | refine wp_cond' rfl (fun hc58 => ?_) (fun hc58 => ?_)
     ·refine wp_reg ?_
      refine ol_r (r_fa (o' := 0) rfl fl42_0 rfl) rfl ?_
      refine ol_r (r_ld (id := 10) rfl rfl rfl sc3) rfl ?_
      refine ol_r (r_move rfl) rfl ?_
      refine ol_r (r_sub rfl rfl (by omega)) rfl ?_
      refine ol_r (r_add rfl rfl (by omega)) rfl ?_
      refine ol_r (r_fa (o' := 1) rfl fl42_1 rfl) rfl ?_
      refine ol_r (r_ld (id := 10) rfl rfl rfl sc3) rfl ?_
      refine ol_r (r_move rfl) rfl ?_
      refine ol_r (r_sub rfl rfl (by omega)) rfl ?_
      refine ol_r (r_add rfl rfl (by omega)) rfl ?_
      refine ol_r (r_build rfl (fun _ => bd42_0_1 _ _ _)) rfl ?_
      refine ol_r (r_move rfl) rfl ?_
      refine ol_store (id := 7) rfl rfl rfl rfl sz42 rfl rfl (by first | decide | exact Nat.zero_lt_succ _ | simp) ?_
      refine ol_r (r_assign rfl) rfl ?_
      refine ol_nil (to_k0 (fun _ _ h => h) (hK13 _ _ _ _ _ ?_))
      clear hK13
      refine wp_reg ?_
      refine ol_r (r_add rfl rfl (by omega)) rfl ?_
      refine ol_r (r_move rfl) rfl ?_
      refine ol_nil (to_k0 (fun _ _ h => h) (hK10 ((k + 1, _, (_, _), _)) _ _ ?_ ?_ (sub_cons rfl (sub_cons rfl sub_nil)) (sub_cons rfl (sub_cons rfl (sub_cons rfl (sub_cons rfl (sub_cons rfl (sub_cons rfl (sub_cons rfl sub_nil))))))) (by exact (subH_blk rfl (sub_cons rfl (sub_cons rfl sub_nil)) (subH_same rfl subH_nil))) (subH_same rfl subH_nil)))
      ·try dsimp only
       refine ⟨by omega, ?_⟩
       rw [take_succ_get hx24, rqG_snoc, ← hG]
       first
       | exact (rqS_gt (s := (D, (u1, u2), v)) rfl hc58).symm
       | exact (rqS_le (s := (D, (u1, u2), v)) rfl hc58).symm
      ·try dsimp only
       omega
     ·refine wp_skip' (to_k0 (fun _ _ h => h) (hK13 _ _ _ _ _ ?_))
      clear hK13
      refine wp_reg ?_
      refine ol_r (r_add rfl rfl (by omega)) rfl ?_
      refine ol_r (r_move rfl) rfl ?_
      refine ol_nil (to_k0 (fun _ _ h => h) (hK10 ((k + 1, _, (_, _), _)) _ _ ?_ ?_ (sub_cons rfl (sub_cons rfl sub_nil)) (sub_cons rfl (sub_cons rfl (sub_cons rfl (sub_cons rfl (sub_cons rfl (sub_cons rfl (sub_cons rfl sub_nil))))))) (by exact (subH_blk rfl (sub_cons rfl (sub_cons rfl sub_nil)) (subH_same rfl subH_nil))) (subH_same rfl subH_nil)))
      ·try dsimp only
       refine ⟨by omega, ?_⟩
       rw [take_succ_get hx24, rqG_snoc, ← hG]
       first
       | exact (rqS_gt (s := (D, (u1, u2), v)) rfl hc58).symm
       | exact (rqS_le (s := (D, (u1, u2), v)) rfl hc58).symm
      ·try dsimp only
       omega
    ·refine wp_exit' (to_k0 (fun _ _ h => h) (hK8 _ _ _ _ _ ?_))
     clear hK8
     refine wp_seq' fun K18 hK18 => ?_
     refine wp_reg ?_
     refine ol_r (r_lda (id := 7) (n := 2) rfl rfl rfl ag42) rfl ?_
     refine ol_r (r_move rfl) rfl ?_
     refine ol_store (id := 2) rfl rfl rfl rfl sz42 rfl rfl (by first | decide | exact Nat.zero_lt_succ _ | simp) ?_
     refine ol_r (r_assign rfl) rfl ?_
     refine ol_r (r_assign rfl) rfl ?_
     refine ol_nil (to_k0 (fun _ _ h => h) (hK18 _ _ _ _ _ ?_))
     clear hK18
     refine hQ.ret (rvs3 (rv_c (id := 2) (n := 2) rfl rfl ag42 rfl) (rv_t rfl) (rv_t rfl)) (fun _ _ h => h) fun w hb hs hB hkd => ?_
     rw [List.take_of_length_le (by omega)] at hG
     exact ⟨by rw [squareR_0 (Decidable.not_not.1 hc15), squares_same hsrt, ← hG]; rfl, hb⟩
end Go.Proofs.Ytjflbnbofedlkaa

/-
  Array values, whose elements are structs.
-/

namespace Go.Proofs.Ytjflbnbofedlkaa
open Go Go.RowKit
set_option linter.unusedVariables false
set_option linter.unusedSimpArgs false
namespace Hx
/-- An array type of n structs. -/
def ArrA (P : Program) (t : TypeId) (n size : Nat) : Prop := ∃ e, P.underlying t = some (.array n e) ∧ Aggr P e size
theorem Enc.enc_cut {α : Type} (E : Enc α) : ∀ (xs : List α) (i : Nat) (y : α), xs[i]? = some y → ((E.enc xs).drop (i * E.size)).take E.size = E.cells y
  | [], i, y, h => by simp at h
  | x :: r, 0, y, h => by
    simp at h; subst h
    rw [show E.enc (x :: r) = E.cells x ++ E.enc r from rfl, Nat.zero_mul, List.drop_zero, ← E.len x, List.take_left]
  | x :: r, i + 1, y, h => by
    rw [show E.enc (x :: r) = E.cells x ++ E.enc r from rfl, show (i + 1) * E.size = (E.cells x).length + i * E.size from by rw [E.len, Nat.add_mul]; omega, ← List.drop_drop, List.drop_left]
    exact Enc.enc_cut E r i y (by simpa using h)
theorem run_partA {P : Program} {e : TypeId} {size : Nat} (h : Aggr P e size) (cs : Array Value) (off : Nat) (w : World) : (part e cs off).run P w = .ok (.agg (cs.extract off (off + size))) w := by
  obtain ⟨hz, d, hu, hd⟩ := h
  have hagg : (isAgg e).run P w = .ok true w := by
    simp only [isAgg, Sem.run_bind, run_underlying hu, Result.andThen_ok]
    rcases hd with ⟨fs, rfl⟩ | ⟨n, e, rfl⟩ <;> rfl
  simp [part, hagg, Sem.run_bind, run_sizeOf hz, Result.andThen_ok]
/-- An element of an array value, at a place that is told by a number. -/
theorem ol_aix {α : Type} (E : Enc α) (xs : List α) {P : Program} {N : Fr} {B : Nat} {w0 : World} {Q : Exit → Act → World → Prop} {al : AL} {H : HL} {ops rest : List Oper} {d : Nat} {ty : TypeId} {pos : String} {after : Array Edge} {x i : Operand} {t : TypeId} {n : Nat} {kd : IntKind} {iv : Int}
    (hx : ev al x = some (.agg (E.enc xs).toArray)) (hi : ev al i = some (.int kd iv)) (hT : ArrA P t n E.size) (hv : ∀ y, E.val y = .agg (E.cells y).toArray) (hn : xs.length = n) (h0 : 0 ≤ iv ∧ iv < n) (hd : Nat.blt d N.n = true)
    (k : ∀ y, xs[iv.toNat]? = some y → OL P N B w0 ops rest Q ((d, E.val y) :: al) H) :
    OL P N B w0 ops ({ dst := some d, op := .index t x i, type := ty, pos, after, guard := none } :: rest) Q al H := by
  have hlt : iv.toNat < xs.length := by omega
  refine ol_r (fun a w hst => ?_) hd (k _ (List.getElem?_eq_getElem hlt))
  obtain ⟨e, hu, hA⟩ := hT
  have hz : Size P e E.size := hA.1
  have hcut : ((E.enc xs).toArray.extract (iv.toNat * E.size) (iv.toNat * E.size + E.size)) = (E.cells (xs[iv.toNat]'hlt)).toArray := by
    rw [← E.enc_cut xs iv.toNat _ (List.getElem?_eq_getElem hlt)]
    apply Array.ext'
    rw [Array.toList_extract]
    simp [List.extract_eq_take_drop]
  have hp := run_partA hA (E.enc xs).toArray (iv.toNat * E.size) w
  rw [hcut] at hp
  simp only [execOp, hst.regs.eval hx, hst.regs.eval hi, Instr.index, Sem.run_bind, run_underlying hu, Result.andThen_ok, asIntOf, Sem.run_pure, if_pos h0, run_sizeOf hz, hp, hv]
/-- Two entries change their numbers. -/
theorem Sat.swap {B : Nat} {w : World} {H : HL} (i j : Nat) {e f : Ent} (hij : i ≠ j) (hi : look H i = some e) (hj : look H j = some f) (h : Sat B w H) : Sat B w ((i, f) :: (j, e) :: H) := by
  have hl : ∀ k g, look ((i, f) :: (j, e) :: H) k = some g → ∃ k', look H k' = some g ∧ (k = i ∧ k' = j ∨ k = j ∧ k' = i ∨ k ≠ i ∧ k ≠ j ∧ k' = k) := fun k g hk => by
    by_cases h1 : i = k
    · subst h1; rw [look_cons_eq] at hk; cases hk; exact ⟨j, hj, .inl ⟨rfl, rfl⟩⟩
    · rw [look_cons_ne _ _ h1] at hk
      by_cases h2 : j = k
      · subst h2; rw [look_cons_eq] at hk; cases hk; exact ⟨i, hi, .inr (.inl ⟨rfl, rfl⟩)⟩
      · rw [look_cons_ne _ _ h2] at hk; exact ⟨k, hk, .inr (.inr ⟨fun h => h1 h.symm, fun h => h2 h.symm, rfl⟩)⟩
  refine ⟨fun k g hk => ?_, fun k l g g' hkl hk hl' => ?_⟩
  · obtain ⟨k', h1, _⟩ := hl k g hk
    exact h.ok k' g h1
  · obtain ⟨k', h1, h2⟩ := hl k g hk
    obtain ⟨l', h3, h4⟩ := hl l g' hl'
    exact h.apart k' l' g g' (by omega) h1 h3
theorem ol_swap (i j : Nat) {P : Program} {N : Fr} {B : Nat} {w0 : World} {Q : Exit → Act → World → Prop} {al : AL} {H : HL} {ops l : List Oper} {e f : Ent} (hij : i ≠ j) (hi : look H i = some e) (hj : look H j = some f) (k : OL P N B w0 ops l Q al ((i, f) :: (j, e) :: H)) : OL P N B w0 ops l Q al H :=
  fun a w hst => k a w (hst.step hst.regs hst.below (hst.sat.swap i j hij hi hj) hst.base (Kd.refl _ _))
end Hx
end Go.Proofs.Ytjflbnbofedlkaa

/-
  The greatest group of inner tiles, by the program.
-/



namespace Go.Proofs.Ytjflbnbofedlkaa
open Go Go.RowKit Hx
set_option linter.unusedVariables false
set_option linter.unusedSimpArgs false
set_option maxRecDepth 8000
theorem arA114 : ArrA Try.prog 114 4 2 := ⟨42, by kernel_rfl, ag42⟩
theorem bd114_0_1_2_3 (a0 b0 a1 b1 a2 b2 a3 b3 : Int) (w : World) : (Instr.build 114 #[(0, .agg #[.int .i64 a0, .int .i64 b0]), (1, .agg #[.int .i64 a1, .int .i64 b1]), (2, .agg #[.int .i64 a2, .int .i64 b2]), (3, .agg #[.int .i64 a3, .int .i64 b3])]).run Try.prog w = .ok (.agg #[.int .i64 a0, .int .i64 b0, .int .i64 a1, .int .i64 b1, .int .i64 a2, .int .i64 b2, .int .i64 a3, .int .i64 b3]) w := by kernel_rfl
theorem match_around (x : TileR) (w : World) (hx : ptB x.1 x.2 = true) : Calls Try.prog 67 #[encTile.val x] w fun e w' => e = .returned (.agg (encTile.enc (nbP x)).toArray) ∧ Below w.heap.size w w' := by
  have hpt := ptB_bd hx
  refine enterQ (N := 28) (C := fun _ => True) (H := []) (B := w.heap.size) (args := [_]) Try.func67 rfl rfl rfl (Nat.le_refl _) (Sat.nil _ _) fun Q hQ => ?_
  refine wp_seq' fun K1 hK1 => ?_
  refine wp_reg ?_
  refine ol_box 1 rfl rfl rfl fun b1 => ?_
  refine ol_alloc 2 z114 rfl fun b2 => ?_
  refine ol_nil (to_k0 (fun _ _ h => h) (hK1 _ _ _ _ _ ?_))
  clear hK1
  refine wp_seq' fun K2 hK2 => ?_
  refine wp_rega [(999, [(1, _)]), (25, [(2, _)])] (by kernel_rfl) ⟨.inr (subH_same rfl subH_nil), ⟨.inr (subH_same rfl subH_nil), trivial⟩⟩ ?_
  refine aq_r 0 999 rfl (by kernel_rfl) (by kernel_rfl) (by kernel_rfl) (.head _) (by kernel_rfl) (by kernel_rfl) rfl (r_fa (o' := 0) rfl fl42_0 rfl) ?_
  refine aq_r 1 999 rfl (by kernel_rfl) (by kernel_rfl) (by kernel_rfl) (.head _) (by kernel_rfl) (by kernel_rfl) rfl (r_ld (id := 1) rfl rfl rfl sc3) ?_
  refine aq_r 2 999 rfl (by kernel_rfl) (by kernel_rfl) (by kernel_rfl) (.head _) (by kernel_rfl) (by kernel_rfl) rfl (r_add rfl rfl (by omega)) ?_
  refine aq_r 3 999 rfl (by kernel_rfl) (by kernel_rfl) (by kernel_rfl) (.head _) (by kernel_rfl) (by kernel_rfl) rfl (r_fa (o' := 1) rfl fl42_1 rfl) ?_
  refine aq_r 4 999 rfl (by kernel_rfl) (by kernel_rfl) (by kernel_rfl) (.head _) (by kernel_rfl) (by kernel_rfl) rfl (r_ld (id := 1) rfl rfl rfl sc3) ?_
  refine aq_r 6 999 rfl (by kernel_rfl) (by kernel_rfl) (by kernel_rfl) (.head _) (by kernel_rfl) (by kernel_rfl) rfl (r_fa (o' := 0) rfl fl42_0 rfl) ?_
  refine aq_r 7 999 rfl (by kernel_rfl) (by kernel_rfl) (by kernel_rfl) (.head _) (by kernel_rfl) (by kernel_rfl) rfl (r_ld (id := 1) rfl rfl rfl sc3) ?_
  refine aq_r 8 999 rfl (by kernel_rfl) (by kernel_rfl) (by kernel_rfl) (.head _) (by kernel_rfl) (by kernel_rfl) rfl (r_sub rfl rfl (by omega)) ?_
  refine aq_r 9 999 rfl (by kernel_rfl) (by kernel_rfl) (by kernel_rfl) (.head _) (by kernel_rfl) (by kernel_rfl) rfl (r_fa (o' := 1) rfl fl42_1 rfl) ?_
  refine aq_r 10 999 rfl (by kernel_rfl) (by kernel_rfl) (by kernel_rfl) (.head _) (by kernel_rfl) (by kernel_rfl) rfl (r_ld (id := 1) rfl rfl rfl sc3) ?_
  refine aq_r 12 999 rfl (by kernel_rfl) (by kernel_rfl) (by kernel_rfl) (.head _) (by kernel_rfl) (by kernel_rfl) rfl (r_fa (o' := 0) rfl fl42_0 rfl) ?_
  refine aq_r 13 999 rfl (by kernel_rfl) (by kernel_rfl) (by kernel_rfl) (.head _) (by kernel_rfl) (by kernel_rfl) rfl (r_ld (id := 1) rfl rfl rfl sc3) ?_
  refine aq_r 14 999 rfl (by kernel_rfl) (by kernel_rfl) (by kernel_rfl) (.head _) (by kernel_rfl) (by kernel_rfl) rfl (r_fa (o' := 1) rfl fl42_1 rfl) ?_
  refine aq_r 15 999 rfl (by kernel_rfl) (by kernel_rfl) (by kernel_rfl) (.head _) (by kernel_rfl) (by kernel_rfl) rfl (r_ld (id := 1) rfl rfl rfl sc3) ?_
  refine aq_r 16 999 rfl (by kernel_rfl) (by kernel_rfl) (by kernel_rfl) (.head _) (by kernel_rfl) (by kernel_rfl) rfl (r_add rfl rfl (by omega)) ?_
  refine aq_r 18 999 rfl (by kernel_rfl) (by kernel_rfl) (by kernel_rfl) (.head _) (by kernel_rfl) (by kernel_rfl) rfl (r_fa (o' := 0) rfl fl42_0 rfl) ?_
  refine aq_r 19 999 rfl (by kernel_rfl) (by kernel_rfl) (by kernel_rfl) (.head _) (by kernel_rfl) (by kernel_rfl) rfl (r_ld (id := 1) rfl rfl rfl sc3) ?_
  refine aq_r 20 999 rfl (by kernel_rfl) (by kernel_rfl) (by kernel_rfl) (.head _) (by kernel_rfl) (by kernel_rfl) rfl (r_fa (o' := 1) rfl fl42_1 rfl) ?_
  refine aq_r 21 999 rfl (by kernel_rfl) (by kernel_rfl) (by kernel_rfl) (.head _) (by kernel_rfl) (by kernel_rfl) rfl (r_ld (id := 1) rfl rfl rfl sc3) ?_
  refine aq_r 22 999 rfl (by kernel_rfl) (by kernel_rfl) (by kernel_rfl) (.head _) (by kernel_rfl) (by kernel_rfl) rfl (r_sub rfl rfl (by omega)) ?_
  refine aq_one (i := 5) (by kernel_rfl) rfl fun K3 hK3 => ?_
  refine ol_call rfl rfl cb66 rfl (fun w1 hb1 hs1 hB1 => Calls.mono (match_tile _ _ _) ?_)
  rintro e w2 ⟨rfl, hb2⟩
  refine After.below rfl hb1 hs1 hB1 hb2 ?_
  clear hb2 hB1 hs1 hb1 w2 w1
  refine ol_nil (to_k0 (fun _ _ h => h) (hK3 _ _ ⟨.inr (by repeat' first | exact subH_nil | refine subH_same rfl ?_ | (refine subH_blk rfl (by repeat' first | exact sub_nil | refine sub_cons rfl ?_) ?_)), ⟨.inr (by repeat' first | exact subH_nil | refine subH_same rfl ?_ | (refine subH_blk rfl (by repeat' first | exact sub_nil | refine sub_cons rfl ?_) ?_)), trivial⟩⟩ ?_))
  clear hK3
  refine aq_one (i := 11) (by kernel_rfl) rfl fun K4 hK4 => ?_
  refine ol_call rfl rfl cb66 rfl (fun w1 hb1 hs1 hB1 => Calls.mono (match_tile _ _ _) ?_)
  rintro e w2 ⟨rfl, hb2⟩
  refine After.below rfl hb1 hs1 hB1 hb2 ?_
  clear hb2 hB1 hs1 hb1 w2 w1
  refine ol_nil (to_k0 (fun _ _ h => h) (hK4 _ _ ⟨.inr (by repeat' first | exact subH_nil | refine subH_same rfl ?_ | (refine subH_blk rfl (by repeat' first | exact sub_nil | refine sub_cons rfl ?_) ?_)), ⟨.inr (by repeat' first | exact subH_nil | refine subH_same rfl ?_ | (refine subH_blk rfl (by repeat' first | exact sub_nil | refine sub_cons rfl ?_) ?_)), trivial⟩⟩ ?_))
  clear hK4
  refine aq_one (i := 17) (by kernel_rfl) rfl fun K5 hK5 => ?_
  refine ol_call rfl rfl cb66 rfl (fun w1 hb1 hs1 hB1 => Calls.mono (match_tile _ _ _) ?_)
  rintro e w2 ⟨rfl, hb2⟩
  refine After.below rfl hb1 hs1 hB1 hb2 ?_
  clear hb2 hB1 hs1 hb1 w2 w1
  refine ol_nil (to_k0 (fun _ _ h => h) (hK5 _ _ ⟨.inr (by repeat' first | exact subH_nil | refine subH_same rfl ?_ | (refine subH_blk rfl (by repeat' first | exact sub_nil | refine sub_cons rfl ?_) ?_)), ⟨.inr (by repeat' first | exact subH_nil | refine subH_same rfl ?_ | (refine subH_blk rfl (by repeat' first | exact sub_nil | refine sub_cons rfl ?_) ?_)), trivial⟩⟩ ?_))
  clear hK5
  refine aq_one (i := 23) (by kernel_rfl) rfl fun K6 hK6 => ?_
  refine ol_call rfl rfl cb66 rfl (fun w1 hb1 hs1 hB1 => Calls.mono (match_tile _ _ _) ?_)
  rintro e w2 ⟨rfl, hb2⟩
  refine After.below rfl hb1 hs1 hB1 hb2 ?_
  clear hb2 hB1 hs1 hb1 w2 w1
  refine ol_nil (to_k0 (fun _ _ h => h) (hK6 _ _ ⟨.inr (by repeat' first | exact subH_nil | refine subH_same rfl ?_ | (refine subH_blk rfl (by repeat' first | exact sub_nil | refine sub_cons rfl ?_) ?_)), ⟨.inr (by repeat' first | exact subH_nil | refine subH_same rfl ?_ | (refine subH_blk rfl (by repeat' first | exact sub_nil | refine sub_cons rfl ?_) ?_)), trivial⟩⟩ ?_))
  clear hK6
  refine aq_r 24 999 rfl (by kernel_rfl) (by kernel_rfl) (by kernel_rfl) (.head _) (by kernel_rfl) (by kernel_rfl) rfl (r_build rfl (fun _ => bd114_0_1_2_3 _ _ _ _ _ _ _ _ _)) ?_
  refine aq_one (i := 25) (by kernel_rfl) rfl fun K7 hK7 => ?_
  refine ol_store (id := 2) rfl rfl rfl rfl sz114 rfl rfl (by first | decide | exact Nat.zero_lt_succ _ | simp) ?_
  refine ol_nil (to_k0 (fun _ _ h => h) (hK7 _ _ ⟨.inr (by repeat' first | exact subH_nil | refine subH_same rfl ?_ | (refine subH_blk rfl (by repeat' first | exact sub_nil | refine sub_cons rfl ?_) ?_)), ⟨.inl (by kernel_rfl), trivial⟩⟩ ?_))
  clear hK7
  refine aq_done (by kernel_rfl) ?_
  refine (to_k0 (fun _ _ h => h) (hK2 _ _ _ _ _ ?_))
  clear hK2
  refine hQ.ret (rvs1 (rv_c (id := 2) (n := 8) rfl rfl ag114 rfl)) (fun _ _ h => h) fun w hb hs hB hkd => ?_
  exact ⟨rfl, hb⟩
theorem ref5_around (x : TileR) (w : World) (hx : ptB x.1 x.2 = true) : Calls Try.prog 70 #[encTile.val x] w fun e w' => e = .returned (.agg (encTile.enc (nbR x)).toArray) ∧ Below w.heap.size w w' := by
  have hpt := ptB_bd hx
  refine enterQ (N := 28) (C := fun _ => True) (H := []) (B := w.heap.size) (args := [_]) Try.func70 rfl rfl rfl (Nat.le_refl _) (Sat.nil _ _) fun Q hQ => ?_
  refine wp_seq' fun K1 hK1 => ?_
  refine wp_reg ?_
  refine ol_box 1 rfl rfl rfl fun b1 => ?_
  refine ol_alloc 2 z114 rfl fun b2 => ?_
  refine ol_nil (to_k0 (fun _ _ h => h) (hK1 _ _ _ _ _ ?_))
  clear hK1
  refine wp_seq' fun K2 hK2 => ?_
  refine wp_reg ?_
  refine ol_r (r_fa (o' := 0) rfl fl42_0 rfl) rfl ?_
  refine ol_r (r_ld (id := 1) rfl rfl rfl sc3) rfl ?_
  refine ol_r (r_sub rfl rfl (by omega)) rfl ?_
  refine ol_r (r_fa (o' := 1) rfl fl42_1 rfl) rfl ?_
  refine ol_r (r_ld (id := 1) rfl rfl rfl sc3) rfl ?_
  refine ol_r (r_build rfl (fun _ => bd42_0_1 _ _ _)) rfl ?_
  refine ol_r (r_fa (o' := 0) rfl fl42_0 rfl) rfl ?_
  refine ol_r (r_ld (id := 1) rfl rfl rfl sc3) rfl ?_
  refine ol_r (r_add rfl rfl (by omega)) rfl ?_
  refine ol_r (r_fa (o' := 1) rfl fl42_1 rfl) rfl ?_
  refine ol_r (r_ld (id := 1) rfl rfl rfl sc3) rfl ?_
  refine ol_r (r_build rfl (fun _ => bd42_0_1 _ _ _)) rfl ?_
  refine ol_r (r_fa (o' := 0) rfl fl42_0 rfl) rfl ?_
  refine ol_r (r_ld (id := 1) rfl rfl rfl sc3) rfl ?_
  refine ol_r (r_fa (o' := 1) rfl fl42_1 rfl) rfl ?_
  refine ol_r (r_ld (id := 1) rfl rfl rfl sc3) rfl ?_
  refine ol_r (r_sub rfl rfl (by omega)) rfl ?_
  refine ol_r (r_build rfl (fun _ => bd42_0_1 _ _ _)) rfl ?_
  refine ol_r (r_fa (o' := 0) rfl fl42_0 rfl) rfl ?_
  refine ol_r (r_ld (id := 1) rfl rfl rfl sc3) rfl ?_
  refine ol_r (r_fa (o' := 1) rfl fl42_1 rfl) rfl ?_
  refine ol_r (r_ld (id := 1) rfl rfl rfl sc3) rfl ?_
  refine ol_r (r_add rfl rfl (by omega)) rfl ?_
  refine ol_r (r_build rfl (fun _ => bd42_0_1 _ _ _)) rfl ?_
  refine ol_r (r_build rfl (fun _ => bd114_0_1_2_3 _ _ _ _ _ _ _ _ _)) rfl ?_
  refine ol_store (id := 2) rfl rfl rfl rfl sz114 rfl rfl (by first | decide | exact Nat.zero_lt_succ _ | simp) ?_
  refine ol_nil (to_k0 (fun _ _ h => h) (hK2 _ _ _ _ _ ?_))
  clear hK2
  refine hQ.ret (rvs1 (rv_c (id := 2) (n := 8) rfl rfl ag114 rfl)) (fun _ _ h => h) fun w hb hs hB hkd => ?_
  exact ⟨rfl, hb⟩
noncomputable def clusterR (l : List TileR) : List TileR × Int := if chkT l ≠ 0 then ([], chkT l) else (sortL tlt (clN l l.length).2, 0)
theorem clusterR_e {l : List TileR} (h : chkT l ≠ 0) : clusterR l = ([], chkT l) := if_pos h
theorem clusterR_0 {l : List TileR} (h : chkT l = 0) : clusterR l = (sortL tlt (clN l l.length).2, 0) := if_neg (by omega)
theorem clusterR_b {l b : List TileR} {k : Nat} {S : TileR → Bool} (h : chkT l = 0) (hC : Clu l k S b) (hk : k = l.length) : clusterR l = (sortL tlt b, 0) := by
  subst hk; rw [clusterR_0 h, ← sortL_perm_eq tlt_tot hC.best]
theorem match_Cluster (a : Option Addr) (n c : Nat) (xs : List TileR) (w : World) (hS : Rd encTile w.heap.size w a n c xs) :
    Calls Try.prog 36 #[.slice a n c] w fun e w' => ∃ b m k, e = .returned (.tuple #[.slice b m k, .int .i64 (clusterR xs).2]) ∧ Fresh encTile 42 w w' b m k (clusterR xs).1 := by
  have hsn := hS.len
  have hsf := hS.fit
  refine enterQ (N := 109) (C := fun _ => True) (H := []) (B := w.heap.size) (args := [_]) Try.func36 rfl rfl rfl (Nat.le_refl _) (Sat.nil _ _) fun Q hQ => ?_
  refine wp_seq' fun K1 hK1 => ?_
  refine wp_reg ?_
  refine ol_r (r_assign rfl) rfl ?_
  refine ol_r (r_assign rfl) rfl ?_
  refine ol_nil (to_k0 (fun _ _ h => h) (hK1 _ _ _ _ _ ?_))
  clear hK1
  refine wp_seq' fun K2 hK2 => ?_
  refine wp_seq' fun K3 hK3 => ?_
  refine wp_reg ?_
  refine ol_r (r_move rfl) rfl ?_
  refine ol_call rfl rfl cb40 rfl (fun w1 hb1 hs1 hB1 => Calls.mono (match_CheckTiles _ _ _ xs _ (hS.at hb1 hB1)) ?_)
  rintro e w2 ⟨rfl, hb2⟩
  refine After.below rfl hb1 hs1 hB1 hb2 ?_
  clear hb2 hB1 hs1 hb1 w2 w1
  refine ol_r (r_assign rfl) rfl ?_
  refine ol_nil (to_k0 (fun _ _ h => h) (hK3 _ _ _ _ _ ?_))
  clear hK3
  refine wp_seq' fun K4 hK4 => ?_
  refine wp_reg ?_
  refine ol_r (r_move rfl) rfl ?_
  refine ol_r (r_neq rfl rfl) rfl ?_
  refine ol_nil (to_k0 (fun _ _ h => h) (hK4 _ _ _ _ _ ?_))
  clear hK4
  first | refine wp_condD rfl (fun hc24 => ?_) (fun hc24 => ?_) | refine wp_condN rfl (fun hc24 => ?_) (fun hc24 => ?_) | refine wp_condNB rfl (fun hc24 => ?_) (fun hc24 => ?_) | refine wp_cond' rfl (fun hc24 => ?_) (fun hc24 => ?_)
  ·refine wp_seq' fun K5 hK5 => ?_
   refine wp_reg ?_
   refine ol_r (r_move rfl) rfl ?_
   refine ol_r (r_assign rfl) rfl ?_
   refine ol_r (r_assign rfl) rfl ?_
   refine ol_nil (to_k0 (fun _ _ h => h) (hK5 _ _ _ _ _ ?_))
   clear hK5
   refine hQ.ret (rvs2 (rv_t rfl) (rv_t rfl)) (fun _ _ h => h) fun w hb hs hB hkd => ?_
   exact ⟨none, 0, 0, by rw [clusterR_e hc24], by rw [clusterR_e hc24]; exact Fresh.nil hb⟩
  ·refine wp_skip' (to_k0 (fun _ _ h => h) (hK2 _ _ _ _ _ ?_))
   clear hK2
   refine wp_seq' fun K6 hK6 => ?_
   refine wp_reg ?_
   have hgood := chkT_run (Decidable.not_not.1 hc24)
   have hsrt := hgood.2.2
   refine ol_mkmapE (encTile.val) (Value.bool) 26 rfl fun b26 => ?_
   refine ol_r (r_assign rfl) rfl ?_
   refine ol_nil (to_k0 (fun _ _ h => h) (hK6 _ _ _ _ _ ?_))
   clear hK6
   refine wp_seq' fun K7 hK7 => ?_
   refine wp_seq' fun K8 hK8 => ?_
   refine wp_reg ?_
   refine ol_r (r_move rfl) rfl ?_
   refine ol_r (r_len rfl sl45) rfl ?_
   refine ol_r (r_move rfl) rfl ?_
   refine ol_nil (to_k0 (fun _ _ h => h) (hK8 _ _ _ _ _ ?_))
   clear hK8
   refine wp_block' ?_
   apply wp_loopM (σ := Nat × TB) (fun s => s.1 ≤ n ∧ AllK xs s.1 s.2) (fun s => [(29, .int .i64 s.1)]) [(0, _), (2, _), (3, _), (5, _), (27, _), (28, _)] (fun s => [(26, .ob b26 (MapO (pEnc encTile.val Value.bool s.2)))]) [] (fun s => n - s.1) ((0, []))
   ·try dsimp only
    exact ⟨Nat.zero_le _, AllK.zero _⟩
   ·exact (sub_cons rfl sub_nil)
   ·exact (sub_cons rfl (sub_cons rfl (sub_cons rfl (sub_cons rfl (sub_cons rfl (sub_cons rfl sub_nil))))))
   ·exact (subH_same rfl subH_nil)
   ·exact subH_nil
   ·rintro ⟨k, D⟩ ⟨hk, hD⟩
    dsimp only at hk hD ⊢
    intro K9 hK9
    refine wp_seq' fun K10 hK10 => ?_
    refine wp_reg ?_
    refine ol_r (r_lss rfl rfl) rfl ?_
    refine ol_nil (to_k0 (fun _ _ h => h) (hK10 _ _ _ _ _ ?_))
    clear hK10
    refine wp_seq' fun K11 hK11 => ?_
    first | refine wp_condD rfl (fun hc30 => ?_) (fun hc30 => ?_) | refine wp_condN rfl (fun hc30 => ?_) (fun hc30 => ?_) | refine wp_condNB rfl (fun hc30 => ?_) (fun hc30 => ?_) | refine wp_cond' rfl (fun hc30 => ?_) (fun hc30 => ?_)
    ·refine wp_skip' (to_k0 (fun _ _ h => h) (hK11 _ _ _ _ _ ?_))
     clear hK11
     refine wp_seq' fun K12 hK12 => ?_
     refine wp_block' ?_
     refine wp_seq' fun K13 hK13 => ?_
     refine wp_reg ?_
     refine ol_ixr hS rfl rfl sl45 (by omega) rfl fun x31 hx31 => ?_
     try simp only [Int.toNat_natCast] at hx31
     refine ol_r (r_ldw rfl (fun w1 hb1 hs1 hB1 => Rd.loads hS ty42 hx31 hb1)) rfl ?_
     refine ol_alloc 7 z42 rfl fun b7 => ?_
     refine ol_store (id := 7) rfl rfl rfl rfl sz42 rfl rfl (by first | decide | exact Nat.zero_lt_succ _ | simp) ?_
     refine ol_nil (to_k0 (fun _ _ h => h) (hK13 _ _ _ _ _ ?_))
     clear hK13
     refine wp_reg ?_
     refine ol_r (r_move rfl) rfl ?_
     refine ol_r (r_lda (id := 7) (n := 2) rfl rfl rfl ag42) rfl ?_
     refine ol_mapset (K := encTile.val) (V := Value.bool) (z := false) (k := x31) (id := 26) rfl rfl rfl rfl mk54 trivial ?_
     refine ol_nil (to_k0 (fun _ _ h => h) (hK12 _ _ _ _ _ ?_))
     clear hK12
     refine wp_reg ?_
     refine ol_r (r_add rfl rfl (by omega)) rfl ?_
     refine ol_r (r_move rfl) rfl ?_
     refine ol_nil (to_k0 (fun _ _ h => h) (hK9 ((k + 1, _)) _ _ ?_ ?_ (sub_cons rfl sub_nil) (sub_cons rfl (sub_cons rfl (sub_cons rfl (sub_cons rfl (sub_cons rfl (sub_cons rfl sub_nil)))))) (by exact (subH_same rfl subH_nil)) subH_nil))
     ·try dsimp only
      exact ⟨by omega, hD.put hx31⟩
     ·try dsimp only
      omega
    ·refine wp_exit' (to_k0 (fun _ _ h => h) (hK7 _ _ _ _ _ ?_))
     clear hK7
     refine wp_seq' fun K14 hK14 => ?_
     refine wp_reg ?_
     have hall := hD.all (by omega)
     refine ol_mkmapE (encTile.val) (Value.bool) 36 rfl fun b36 => ?_
     refine ol_r (r_assign rfl) rfl ?_
     refine ol_nil (to_k0 (fun _ _ h => h) (hK14 _ _ _ _ _ ?_))
     clear hK14
     refine wp_seq' fun K15 hK15 => ?_
     refine wp_seq' fun K16 hK16 => ?_
     refine wp_reg ?_
     refine ol_r (r_move rfl) rfl ?_
     refine ol_r (r_len rfl sl45) rfl ?_
     refine ol_r (r_move rfl) rfl ?_
     refine ol_nil (to_k0 (fun _ _ h => h) (hK16 _ _ _ _ _ ?_))
     clear hK16
     refine wp_block' ?_
     apply wp_loopM (σ := Nat × TB) (fun s => s.1 ≤ n ∧ InnK nbP xs s.1 (isT s.2) ∧ (pKeys s.2).Nodup) (fun s => [(39, .int .i64 s.1)]) [(0, _), (2, _), (3, _), (5, _), (8, _), (37, _), (38, _)] (fun s => [(36, .ob b36 (MapO (pEnc encTile.val Value.bool s.2)))]) [(26, _)] (fun s => n - s.1) ((0, []))
     ·try dsimp only
      exact ⟨Nat.zero_le _, InnK.zero _ _, List.nodup_nil⟩
     ·exact (sub_cons rfl sub_nil)
     ·exact (sub_cons rfl (sub_cons rfl (sub_cons rfl (sub_cons rfl (sub_cons rfl (sub_cons rfl (sub_cons rfl sub_nil)))))))
     ·exact (subH_same rfl subH_nil)
     ·exact (subH_same rfl subH_nil)
     ·rintro ⟨i, D2⟩ ⟨hi, hI, hN⟩
      dsimp only at hi hI hN ⊢
      intro K17 hK17
      refine wp_seq' fun K18 hK18 => ?_
      refine wp_reg ?_
      refine ol_r (r_lss rfl rfl) rfl ?_
      refine ol_nil (to_k0 (fun _ _ h => h) (hK18 _ _ _ _ _ ?_))
      clear hK18
      refine wp_seq' fun K19 hK19 => ?_
      first | refine wp_condD rfl (fun hc40 => ?_) (fun hc40 => ?_) | refine wp_condN rfl (fun hc40 => ?_) (fun hc40 => ?_) | refine wp_condNB rfl (fun hc40 => ?_) (fun hc40 => ?_) | refine wp_cond' rfl (fun hc40 => ?_) (fun hc40 => ?_)
      ·refine wp_skip' (to_k0 (fun _ _ h => h) (hK19 _ _ _ _ _ ?_))
       clear hK19
       refine wp_seq' fun K20 hK20 => ?_
       refine wp_block' ?_
       refine wp_seq' fun K21 hK21 => ?_
       refine wp_reg ?_
       refine ol_ixr hS rfl rfl sl45 (by omega) rfl fun x41 hx41 => ?_
       try simp only [Int.toNat_natCast] at hx41
       refine ol_r (r_ldw rfl (fun w1 hb1 hs1 hB1 => Rd.loads hS ty42 hx41 hb1)) rfl ?_
       refine ol_alloc 10 z42 rfl fun b10 => ?_
       refine ol_store (id := 10) rfl rfl rfl rfl sz42 rfl rfl (by first | decide | exact Nat.zero_lt_succ _ | simp) ?_
       refine ol_nil (to_k0 (fun _ _ h => h) (hK21 _ _ _ _ _ ?_))
       clear hK21
       refine wp_seq' fun K22 hK22 => ?_
       refine wp_reg ?_
       refine ol_r (r_assign rfl) rfl ?_
       refine ol_nil (to_k0 (fun _ _ h => h) (hK22 _ _ _ _ _ ?_))
       clear hK22
       refine wp_seq' fun K23 hK23 => ?_
       refine wp_seq' fun K24 hK24 => ?_
       refine wp_reg ?_
       refine ol_r (r_lda (id := 10) (n := 2) rfl rfl rfl ag42) rfl ?_
       refine ol_call rfl rfl cb67 rfl (fun w1 hb1 hs1 hB1 => Calls.mono (match_around x41 _ (hgood.2.1 x41 (List.mem_of_getElem? hx41))) ?_)
       rintro e w2 ⟨rfl, hb2⟩
       refine After.below rfl hb1 hs1 hB1 hb2 ?_
       clear hb2 hB1 hs1 hb1 w2 w1
       refine ol_r (r_move rfl) rfl ?_
       refine ol_nil (to_k0 (fun _ _ h => h) (hK24 _ _ _ _ _ ?_))
       clear hK24
       refine wp_block' ?_
       apply wp_loopM (σ := Nat × Bool) (fun s => s.1 ≤ 4 ∧ s.2 = !((nbP x41).take s.1).all fun o => xs.contains o) (fun s => [(45, .int .i64 s.1), (11, .bool s.2)]) [(0, _), (2, _), (3, _), (5, _), (8, _), (10, _), (37, _), (38, _), (39, _), (44, _)] (fun s => []) [(10, _), (26, _), (36, _)] (fun s => 4 - s.1) ((0, false))
       ·try dsimp only
        exact ⟨by omega, by simp⟩
       ·exact (sub_cons rfl (sub_cons rfl sub_nil))
       ·exact (sub_cons rfl (sub_cons rfl (sub_cons rfl (sub_cons rfl (sub_cons rfl (sub_cons rfl (sub_cons rfl (sub_cons rfl (sub_cons rfl (sub_cons rfl sub_nil))))))))))
       ·exact subH_nil
       ·exact (subH_same rfl (subH_same rfl (subH_same rfl subH_nil)))
       ·rintro ⟨j, b⟩ ⟨hj, hbb⟩
        dsimp only at hj hbb ⊢
        intro K25 hK25
        refine wp_seq' fun K26 hK26 => ?_
        refine wp_reg ?_
        refine ol_r (r_lss rfl rfl) rfl ?_
        refine ol_nil (to_k0 (fun _ _ h => h) (hK26 _ _ _ _ _ ?_))
        clear hK26
        refine wp_seq' fun K27 hK27 => ?_
        first | refine wp_condD rfl (fun hc46 => ?_) (fun hc46 => ?_) | refine wp_condN rfl (fun hc46 => ?_) (fun hc46 => ?_) | refine wp_condNB rfl (fun hc46 => ?_) (fun hc46 => ?_) | refine wp_cond' rfl (fun hc46 => ?_) (fun hc46 => ?_)
        ·refine wp_skip' (to_k0 (fun _ _ h => h) (hK27 _ _ _ _ _ ?_))
         clear hK27
         refine wp_seq' fun K28 hK28 => ?_
         refine wp_block' ?_
         refine wp_seq' fun K29 hK29 => ?_
         refine wp_reg ?_
         refine ol_aix encTile (nbP x41) rfl rfl arA114 (fun _ => rfl) rfl (by omega) rfl fun x47 hx47 => ?_
         try simp only [Int.toNat_natCast] at hx47
         refine ol_alloc 13 z42 rfl fun b13 => ?_
         refine ol_store (id := 13) rfl rfl rfl rfl sz42 rfl rfl (by first | decide | exact Nat.zero_lt_succ _ | simp) ?_
         refine ol_nil (to_k0 (fun _ _ h => h) (hK29 _ _ _ _ _ ?_))
         clear hK29
         refine wp_reg ?_
         refine ol_r (r_move rfl) rfl ?_
         refine ol_r (r_move rfl) rfl ?_
         refine ol_split (d := 49) rfl (fun hs49 => ?_) (fun hs49 => ?_)
         ·have phs49 := hs49; try simp only [decide_eq_true_eq, decide_eq_false_iff_not, Bool.not_eq_true', Bool.not_eq_false', Bool.not_true, Bool.not_false] at phs49
          refine ol_s rfl rfl hs49 rfl ?_
          refine ol_s rfl rfl hs49 rfl ?_
          refine ol_s rfl rfl hs49 rfl ?_
          refine ol_s rfl rfl hs49 rfl ?_
          refine ol_r (r_pickT rfl hs49 rfl) rfl ?_
          refine ol_r (r_assign rfl) rfl ?_
          refine ol_nil (to_k0 (fun _ _ h => h) (hK28 _ _ _ _ _ ?_))
          clear hK28
          refine wp_reg ?_
          refine ol_r (r_add rfl rfl (by omega)) rfl ?_
          refine ol_r (r_move rfl) rfl ?_
          refine ol_nil (to_k0 (fun _ _ h => h) (hK25 ((j + 1, _)) _ _ ?_ ?_ (sub_cons rfl (sub_cons rfl sub_nil)) (sub_cons rfl (sub_cons rfl (sub_cons rfl (sub_cons rfl (sub_cons rfl (sub_cons rfl (sub_cons rfl (sub_cons rfl (sub_cons rfl (sub_cons rfl sub_nil)))))))))) (by exact subH_nil) (subH_same rfl (subH_same rfl (subH_same rfl subH_nil)))))
          ·try dsimp only
           exact ⟨by omega, nb_or1 hbb hx47 phs49⟩
          ·try dsimp only
           omega
         ·have phs49 := hs49; try simp only [decide_eq_true_eq, decide_eq_false_iff_not, Bool.not_eq_true', Bool.not_eq_false', Bool.not_true, Bool.not_false] at phs49
          refine ol_g rfl rfl hs49 ?_
          refine ol_r (r_move rfl) rfl ?_
          refine ol_g rfl rfl hs49 ?_
          refine ol_r (r_lda (id := 13) (n := 2) rfl rfl rfl ag42) rfl ?_
          refine ol_g rfl rfl hs49 ?_
          refine ol_r (r_look1 (K := encTile.val) (V := Value.bool) (z := false) (k := x47) (id := 26) rfl rfl rfl mk54) rfl ?_
          refine ol_g rfl rfl hs49 ?_
          refine ol_r (r_not rfl) rfl ?_
          refine ol_r (r_pickF rfl hs49 rfl) rfl ?_
          refine ol_r (r_assign rfl) rfl ?_
          refine ol_nil (to_k0 (fun _ _ h => h) (hK28 _ _ _ _ _ ?_))
          clear hK28
          refine wp_reg ?_
          refine ol_r (r_add rfl rfl (by omega)) rfl ?_
          refine ol_r (r_move rfl) rfl ?_
          refine ol_nil (to_k0 (fun _ _ h => h) (hK25 ((j + 1, _)) _ _ ?_ ?_ (sub_cons rfl (sub_cons rfl sub_nil)) (sub_cons rfl (sub_cons rfl (sub_cons rfl (sub_cons rfl (sub_cons rfl (sub_cons rfl (sub_cons rfl (sub_cons rfl (sub_cons rfl (sub_cons rfl sub_nil)))))))))) (by exact subH_nil) (subH_same rfl (subH_same rfl (subH_same rfl subH_nil)))))
          ·try dsimp only
           exact ⟨by omega, nb_or2 hbb hx47 phs49 (hall x47)⟩
          ·try dsimp only
           omega
        ·refine wp_exit' (to_k0 (fun _ _ h => h) (hK23 _ _ _ _ _ ?_))
         clear hK23
         refine wp_seq' fun K30 hK30 => ?_
         refine wp_reg ?_
         refine ol_r (r_move rfl) rfl ?_
         refine ol_r (r_not rfl) rfl ?_
         refine ol_nil (to_k0 (fun _ _ h => h) (hK30 _ _ _ _ _ ?_))
         clear hK30
         first | refine wp_condD rfl (fun hc57 => ?_) (fun hc57 => ?_) | refine wp_condN rfl (fun hc57 => ?_) (fun hc57 => ?_) | refine wp_condNB rfl (fun hc57 => ?_) (fun hc57 => ?_) | refine wp_cond' rfl (fun hc57 => ?_) (fun hc57 => ?_)
         ·refine wp_reg ?_
          refine ol_r (r_move rfl) rfl ?_
          refine ol_r (r_lda (id := 10) (n := 2) rfl rfl rfl ag42) rfl ?_
          refine ol_mapset (K := encTile.val) (V := Value.bool) (z := false) (k := x41) (id := 36) rfl rfl rfl rfl mk54 trivial ?_
          refine ol_nil (to_k0 (fun _ _ h => h) (hK20 _ _ _ _ _ ?_))
          clear hK20
          refine wp_reg ?_
          refine ol_r (r_add rfl rfl (by omega)) rfl ?_
          refine ol_r (r_move rfl) rfl ?_
          refine ol_nil (to_k0 (fun _ _ h => h) (hK17 ((i + 1, _)) _ _ ?_ ?_ (sub_cons rfl sub_nil) (sub_cons rfl (sub_cons rfl (sub_cons rfl (sub_cons rfl (sub_cons rfl (sub_cons rfl (sub_cons rfl sub_nil))))))) (by exact (subH_same rfl subH_nil)) (subH_same rfl subH_nil)))
          ·try dsimp only
           have h4 := nb_end hbb (show (4 : Nat) ≤ j by omega)
           exact ⟨by omega, hI.put hx41 (fun x => by rw [isT_pS, nb_all h4 hc57]), nodup_pS hN⟩
          ·try dsimp only
           omega
         ·refine wp_skip' (to_k0 (fun _ _ h => h) (hK20 _ _ _ _ _ ?_))
          clear hK20
          refine wp_reg ?_
          refine ol_r (r_add rfl rfl (by omega)) rfl ?_
          refine ol_r (r_move rfl) rfl ?_
          refine ol_nil (to_k0 (fun _ _ h => h) (hK17 ((i + 1, _)) _ _ ?_ ?_ (sub_cons rfl sub_nil) (sub_cons rfl (sub_cons rfl (sub_cons rfl (sub_cons rfl (sub_cons rfl (sub_cons rfl (sub_cons rfl sub_nil))))))) (by exact (subH_same rfl subH_nil)) (subH_same rfl subH_nil)))
          ·try dsimp only
           have h4 := nb_end hbb (show (4 : Nat) ≤ j by omega)
           exact ⟨by omega, hI.skip hx41 (nb_not h4 hc57), hN⟩
          ·try dsimp only
           omega
      ·refine wp_exit' (to_k0 (fun _ _ h => h) (hK15 _ _ _ _ _ ?_))
       clear hK15
       refine wp_seq' fun K31 hK31 => ?_
       refine wp_reg ?_
       refine ol_nilrow 14 42 2 ?_
       refine ol_r (r_assign rfl) rfl ?_
       refine ol_nil (to_k0 (fun _ _ h => h) (hK31 _ _ _ _ _ ?_))
       clear hK31
       refine wp_seq' fun K32 hK32 => ?_
       refine wp_seq' fun K33 hK33 => ?_
       refine wp_reg ?_
       refine ol_r (r_move rfl) rfl ?_
       refine ol_r (r_len rfl sl45) rfl ?_
       refine ol_r (r_move rfl) rfl ?_
       refine ol_nil (to_k0 (fun _ _ h => h) (hK33 _ _ _ _ _ ?_))
       clear hK33
       refine wp_block' ?_
       apply wp_loopM (σ := Nat × TB × List TileR × Option Addr × Nat × Nat) (fun s => s.1 ≤ n ∧ s.2.2.2.2.1 = s.2.2.1.length ∧ Clu xs s.1 (isT s.2.1) s.2.2.1 ∧ (pKeys s.2.1).Nodup) (fun s => [(63, .int .i64 s.1), (14, .slice s.2.2.2.1 s.2.2.2.2.1 s.2.2.2.2.2)]) [(2, _), (3, _), (8, _), (61, _), (62, _)] (fun s => [(14, .row s.2.2.2.1 s.2.2.2.2.1 s.2.2.2.2.2 (encTile.enc s.2.2.1) 42 2), (36, .ob b36 (MapO (pEnc encTile.val Value.bool s.2.1)))]) [(26, _)] (fun s => n - s.1) ((0, _, [], none, 0, 0))
       ·try dsimp only
        exact ⟨Nat.zero_le _, rfl, Clu.init (hI.endP (by omega)), hN⟩
       ·exact (sub_cons rfl (sub_cons rfl sub_nil))
       ·exact (sub_cons rfl (sub_cons rfl (sub_cons rfl (sub_cons rfl (sub_cons rfl sub_nil)))))
       ·exact (subH_row rfl (by first | (dsimp only; rfl; done) | (rfl; done) | (dsimp only; done)) (subH_same rfl subH_nil))
       ·exact (subH_same rfl subH_nil)
       ·rintro ⟨q, D3, bs, ob, m, oc⟩ ⟨hq, hm, hC, hN3⟩
        dsimp only at hq hm hC hN3 ⊢
        have hbl := clu_len hC hsrt
        intro K34 hK34
        refine wp_seq' fun K35 hK35 => ?_
        refine wp_reg ?_
        refine ol_r (r_lss rfl rfl) rfl ?_
        refine ol_nil (to_k0 (fun _ _ h => h) (hK35 _ _ _ _ _ ?_))
        clear hK35
        refine wp_seq' fun K36 hK36 => ?_
        first | refine wp_condD rfl (fun hc64 => ?_) (fun hc64 => ?_) | refine wp_condN rfl (fun hc64 => ?_) (fun hc64 => ?_) | refine wp_condNB rfl (fun hc64 => ?_) (fun hc64 => ?_) | refine wp_cond' rfl (fun hc64 => ?_) (fun hc64 => ?_)
        ·refine wp_skip' (to_k0 (fun _ _ h => h) (hK36 _ _ _ _ _ ?_))
         clear hK36
         refine wp_seq' fun K37 hK37 => ?_
         refine wp_block' ?_
         refine wp_seq' fun K38 hK38 => ?_
         refine wp_reg ?_
         refine ol_ixr hS rfl rfl sl45 (by omega) rfl fun x65 hx65 => ?_
         try simp only [Int.toNat_natCast] at hx65
         refine ol_r (r_ldw rfl (fun w1 hb1 hs1 hB1 => Rd.loads hS ty42 hx65 hb1)) rfl ?_
         refine ol_alloc 16 z42 rfl fun b16 => ?_
         refine ol_store (id := 16) rfl rfl rfl rfl sz42 rfl rfl (by first | decide | exact Nat.zero_lt_succ _ | simp) ?_
         refine ol_nil (to_k0 (fun _ _ h => h) (hK38 _ _ _ _ _ ?_))
         clear hK38
         refine wp_seq' fun K39 hK39 => ?_
         refine wp_seq' fun K40 hK40 => ?_
         refine wp_reg ?_
         refine ol_r (r_move rfl) rfl ?_
         refine ol_r (r_lda (id := 16) (n := 2) rfl rfl rfl ag42) rfl ?_
         refine ol_r (r_look1 (K := encTile.val) (V := Value.bool) (z := false) (id := 36) rfl rfl rfl mk54) rfl ?_
         refine ol_r (r_not rfl) rfl ?_
         refine ol_nil (to_k0 (fun _ _ h => h) (hK40 _ _ _ _ _ ?_))
         clear hK40
         first | refine wp_condD rfl (fun hc70 => ?_) (fun hc70 => ?_) | refine wp_condN rfl (fun hc70 => ?_) (fun hc70 => ?_) | refine wp_condNB rfl (fun hc70 => ?_) (fun hc70 => ?_) | refine wp_cond' rfl (fun hc70 => ?_) (fun hc70 => ?_)
         ·refine wp_exit' (to_k0 (fun _ _ h => h) (hK37 _ _ _ _ _ ?_))
          clear hK37
          refine wp_reg ?_
          refine ol_r (r_add rfl rfl (by omega)) rfl ?_
          refine ol_r (r_move rfl) rfl ?_
          refine ol_nil (to_k0 (fun _ _ h => h) (hK34 ((q + 1, _, bs, _, _, _)) _ _ ?_ ?_ (sub_cons rfl (sub_cons rfl sub_nil)) (sub_cons rfl (sub_cons rfl (sub_cons rfl (sub_cons rfl (sub_cons rfl sub_nil))))) (by exact (subH_row rfl (by first | (dsimp only; rfl; done) | (rfl; done) | (dsimp only; done)) (subH_same rfl subH_nil))) (subH_same rfl subH_nil)))
          ·try dsimp only
           exact ⟨by omega, hm, hC.skip hx65 hc70, hN3⟩
          ·try dsimp only
           omega
         ·refine wp_skip' (to_k0 (fun _ _ h => h) (hK39 _ _ _ _ _ ?_))
          clear hK39
          refine wp_seq' fun K41 hK41 => ?_
          refine wp_reg ?_
          refine ol_r (r_move rfl) rfl ?_
          refine ol_r (r_lda (id := 16) (n := 2) rfl rfl rfl ag42) rfl ?_
          refine ol_mapdel (K := encTile.val) (V := Value.bool) (z := false) (k := x65) (id := 36) rfl rfl rfl mk54 trivial ?_
          refine ol_nil (to_k0 (fun _ _ h => h) (hK41 _ _ _ _ _ ?_))
          clear hK41
          refine wp_seq' fun K42 hK42 => ?_
          refine wp_reg ?_
          refine ol_r (r_lda (id := 16) (n := 2) rfl rfl rfl ag42) rfl ?_
          refine ol_bs1 74 rfl rfl rw45 rfl rfl rfl fun a74 => ?_
          refine ol_r (r_assign rfl) rfl ?_
          refine ol_nil (to_k0 (fun _ _ h => h) (hK42 _ _ _ _ _ ?_))
          clear hK42
          refine wp_seq' fun K43 hK43 => ?_
          refine wp_seq' fun K44 hK44 => ?_
          refine wp_reg ?_
          refine ol_r (r_assign rfl) rfl ?_
          refine ol_nil (to_k0 (fun _ _ h => h) (hK44 _ _ _ _ _ ?_))
          clear hK44
          refine wp_block' ?_
          apply wp_loopM (σ := Nat × TB × List TileR × Option Addr × Nat × Nat) (fun s => s.2.2.2.2.1 = s.2.2.1.length ∧ Grp nbP (isT D3) x65 (isT s.2.1) s.2.2.1 s.1 0 ∧ (pKeys s.2.1).Nodup) (fun s => [(18, .int .i64 s.1), (17, .slice s.2.2.2.1 s.2.2.2.2.1 s.2.2.2.2.2)]) [(2, _), (3, _), (8, _), (14, _), (61, _), (62, _), (63, _)] (fun s => [(74, .row s.2.2.2.1 s.2.2.2.2.1 s.2.2.2.2.2 (encTile.enc s.2.2.1) 42 2), (36, .ob b36 (MapO (pEnc encTile.val Value.bool s.2.1)))]) [(14, _), (16, _), (26, _)] (fun s => n - s.1) ((0, _, [x65], _, 1, _))
          ·try dsimp only
           exact ⟨rfl, Grp.start hc70 (fun x => isT_pD hN3 _ _), nodup_pD hN3⟩
          ·exact (sub_cons rfl (sub_cons rfl sub_nil))
          ·exact (sub_cons rfl (sub_cons rfl (sub_cons rfl (sub_cons rfl (sub_cons rfl (sub_cons rfl (sub_cons rfl sub_nil)))))))
          ·exact (subH_row rfl (by first | (dsimp only; rfl; done) | (rfl; done) | (dsimp only; done)) (subH_same rfl subH_nil))
          ·exact (subH_same rfl (subH_same rfl (subH_same rfl subH_nil)))
          ·rintro ⟨k, D4, g, oa, m4, oc4⟩ ⟨hm4, hg, hN4⟩
           dsimp only at hm4 hg hN4 ⊢
           have hgl := hg.len (fun x hx => hC.inn hx)
           intro K45 hK45
           refine wp_seq' fun K46 hK46 => ?_
           refine wp_seq' fun K47 hK47 => ?_
           refine wp_reg ?_
           refine ol_r (r_move rfl) rfl ?_
           refine ol_r (r_move rfl) rfl ?_
           refine ol_r (r_len rfl sl45) rfl ?_
           refine ol_r (r_lss rfl rfl) rfl ?_
           refine ol_nil (to_k0 (fun _ _ h => h) (hK47 _ _ _ _ _ ?_))
           clear hK47
           first | refine wp_condD rfl (fun hc78 => ?_) (fun hc78 => ?_) | refine wp_condN rfl (fun hc78 => ?_) (fun hc78 => ?_) | refine wp_condNB rfl (fun hc78 => ?_) (fun hc78 => ?_) | refine wp_cond' rfl (fun hc78 => ?_) (fun hc78 => ?_)
           ·refine wp_skip' (to_k0 (fun _ _ h => h) (hK46 _ _ _ _ _ ?_))
            clear hK46
            refine wp_seq' fun K48 hK48 => ?_
            refine wp_block' ?_
            refine wp_seq' fun K49 hK49 => ?_
            refine wp_reg ?_
            refine ol_r (r_move rfl) rfl ?_
            refine ol_r (r_move rfl) rfl ?_
            refine ol_ixo (id := 74) encTile _ rfl rfl rfl rfl sl45 (by omega) rfl fun x83 hx83 => ?_
            try simp only [Int.toNat_natCast] at hx83
            try simp only [Int.toNat_natCast] at hx83
            refine ol_r (r_ldw rfl (fun w1 hb1 hs1 hB1 => ld_own (id := 74) hs1 rfl rfl ty42 hx83)) rfl ?_
            have hp83 := hgood.2.1 x83 (hC.inn (hg.inn x83 (List.mem_of_getElem? hx83)))
            refine ol_call rfl rfl cb67 rfl (fun w1 hb1 hs1 hB1 => Calls.mono (match_around x83 _ hp83) ?_)
            rintro e w2 ⟨rfl, hb2⟩
            refine After.below rfl hb1 hs1 hB1 hb2 ?_
            clear hb2 hB1 hs1 hb1 w2 w1
            refine ol_r (r_move rfl) rfl ?_
            refine ol_nil (to_k0 (fun _ _ h => h) (hK49 _ _ _ _ _ ?_))
            clear hK49
            refine wp_block' ?_
            apply wp_loopM (σ := Nat × TB × List TileR × Option Addr × Nat × Nat) (fun s => s.1 ≤ 4 ∧ s.2.2.2.2.1 = s.2.2.1.length ∧ Grp nbP (isT D3) x65 (isT s.2.1) s.2.2.1 k s.1 ∧ (pKeys s.2.1).Nodup ∧ s.2.2.1[k]? = some x83) (fun s => [(86, .int .i64 s.1), (17, .slice s.2.2.2.1 s.2.2.2.2.1 s.2.2.2.2.2)]) [(2, _), (3, _), (8, _), (14, _), (18, _), (61, _), (62, _), (63, _), (85, _)] (fun s => [(74, .row s.2.2.2.1 s.2.2.2.2.1 s.2.2.2.2.2 (encTile.enc s.2.2.1) 42 2), (36, .ob b36 (MapO (pEnc encTile.val Value.bool s.2.1)))]) [(14, _), (16, _), (26, _)] (fun s => 4 - s.1) ((0, _, g, _, _, _))
            ·try dsimp only
             exact ⟨by omega, hm4, hg, hN4, hx83⟩
            ·exact (sub_cons rfl (sub_cons rfl sub_nil))
            ·exact (sub_cons rfl (sub_cons rfl (sub_cons rfl (sub_cons rfl (sub_cons rfl (sub_cons rfl (sub_cons rfl (sub_cons rfl (sub_cons rfl sub_nil)))))))))
            ·exact (subH_row rfl (by first | (dsimp only; rfl; done) | (rfl; done) | (dsimp only; done)) (subH_same rfl subH_nil))
            ·exact (subH_same rfl (subH_same rfl (subH_same rfl subH_nil)))
            ·rintro ⟨j, D5, g5, oa5, m5, oc5⟩ ⟨hj, hm5, hg5, hN5, hx5⟩
             dsimp only at hj hm5 hg5 hN5 hx5 ⊢
             have hgl5 := hg5.len (fun x hx => hC.inn hx)
             intro K50 hK50
             refine wp_seq' fun K51 hK51 => ?_
             refine wp_reg ?_
             refine ol_r (r_lss rfl rfl) rfl ?_
             refine ol_nil (to_k0 (fun _ _ h => h) (hK51 _ _ _ _ _ ?_))
             clear hK51
             refine wp_seq' fun K52 hK52 => ?_
             first | refine wp_condD rfl (fun hc87 => ?_) (fun hc87 => ?_) | refine wp_condN rfl (fun hc87 => ?_) (fun hc87 => ?_) | refine wp_condNB rfl (fun hc87 => ?_) (fun hc87 => ?_) | refine wp_cond' rfl (fun hc87 => ?_) (fun hc87 => ?_)
             ·refine wp_skip' (to_k0 (fun _ _ h => h) (hK52 _ _ _ _ _ ?_))
              clear hK52
              refine wp_seq' fun K53 hK53 => ?_
              refine wp_block' ?_
              refine wp_seq' fun K54 hK54 => ?_
              refine wp_reg ?_
              refine ol_aix encTile (nbP x83) rfl rfl arA114 (fun _ => rfl) rfl (by omega) rfl fun x88 hx88 => ?_
              try simp only [Int.toNat_natCast] at hx88
              refine ol_alloc 20 z42 rfl fun b20 => ?_
              refine ol_store (id := 20) rfl rfl rfl rfl sz42 rfl rfl (by first | decide | exact Nat.zero_lt_succ _ | simp) ?_
              refine ol_nil (to_k0 (fun _ _ h => h) (hK54 _ _ _ _ _ ?_))
              clear hK54
              refine wp_seq' fun K55 hK55 => ?_
              refine wp_reg ?_
              refine ol_r (r_move rfl) rfl ?_
              refine ol_r (r_lda (id := 20) (n := 2) rfl rfl rfl ag42) rfl ?_
              refine ol_r (r_look1 (K := encTile.val) (V := Value.bool) (z := false) (k := x88) (id := 36) rfl rfl rfl mk54) rfl ?_
              refine ol_nil (to_k0 (fun _ _ h => h) (hK55 _ _ _ _ _ ?_))
              clear hK55
              first | refine wp_condD rfl (fun hc91 => ?_) (fun hc91 => ?_) | refine wp_condN rfl (fun hc91 => ?_) (fun hc91 => ?_) | refine wp_condNB rfl (fun hc91 => ?_) (fun hc91 => ?_) | refine wp_cond' rfl (fun hc91 => ?_) (fun hc91 => ?_)
              ·refine wp_seq' fun K56 hK56 => ?_
               refine wp_reg ?_
               refine ol_r (r_move rfl) rfl ?_
               refine ol_r (r_lda (id := 20) (n := 2) rfl rfl rfl ag42) rfl ?_
               refine ol_mapdel (K := encTile.val) (V := Value.bool) (z := false) (k := x88) (id := 36) rfl rfl rfl mk54 trivial ?_
               refine ol_nil (to_k0 (fun _ _ h => h) (hK56 _ _ _ _ _ ?_))
               clear hK56
               refine wp_reg ?_
               refine ol_r (r_move rfl) rfl ?_
               refine ol_r (r_lda (id := 20) (n := 2) rfl rfl rfl ag42) rfl ?_
               refine ol_bs1 96 rfl rfl rw45 rfl rfl rfl fun a96 => ?_
               refine ol_append1 (id := 74) (id2 := 96) rfl rfl rfl rfl rfl rw45 (by omega) rfl fun a97 c97 => ?_
               refine ol_r (r_assign rfl) rfl ?_
               refine ol_nil (to_k0 (fun _ _ h => h) (hK53 _ _ _ _ _ ?_))
               clear hK53
               refine wp_reg ?_
               refine ol_r (r_add rfl rfl (by omega)) rfl ?_
               refine ol_r (r_move rfl) rfl ?_
               refine ol_nil (to_k0 (fun _ _ h => h) (hK50 ((j + 1, _, g5 ++ [x88], _, _, _)) _ _ ?_ ?_ (sub_cons rfl (sub_cons rfl sub_nil)) (sub_cons rfl (sub_cons rfl (sub_cons rfl (sub_cons rfl (sub_cons rfl (sub_cons rfl (sub_cons rfl (sub_cons rfl (sub_cons rfl sub_nil))))))))) (by exact (subH_row rfl (by first | (dsimp only; rw [Enc.enc_append]; rfl; done) | (rw [Enc.enc_append]; rfl; done) | (dsimp only; done)) (subH_same rfl subH_nil))) (subH_same rfl (subH_same rfl (subH_same rfl subH_nil)))))
               ·try dsimp only
                exact ⟨by omega, by rw [List.length_append, hm5]; rfl, hg5.take nbl_P hx5 hx88 hc91 (fun z => isT_pD hN5 _ _), nodup_pD hN5, by rw [List.getElem?_append_left (List.getElem?_eq_some_iff.1 hx5).1]; exact hx5⟩
               ·try dsimp only
                omega
              ·refine wp_skip' (to_k0 (fun _ _ h => h) (hK53 _ _ _ _ _ ?_))
               clear hK53
               refine wp_reg ?_
               refine ol_r (r_add rfl rfl (by omega)) rfl ?_
               refine ol_r (r_move rfl) rfl ?_
               refine ol_nil (to_k0 (fun _ _ h => h) (hK50 ((j + 1, _, g5, _, _, _)) _ _ ?_ ?_ (sub_cons rfl (sub_cons rfl sub_nil)) (sub_cons rfl (sub_cons rfl (sub_cons rfl (sub_cons rfl (sub_cons rfl (sub_cons rfl (sub_cons rfl (sub_cons rfl (sub_cons rfl sub_nil))))))))) (by exact (subH_row rfl (by first | (dsimp only; rw [Enc.enc_append]; rfl; done) | (rw [Enc.enc_append]; rfl; done) | (dsimp only; done)) (subH_same rfl subH_nil))) (subH_same rfl (subH_same rfl (subH_same rfl subH_nil)))))
               ·try dsimp only
                exact ⟨by omega, hm5, hg5.skip hx5 hx88 hc91, hN5, hx5⟩
               ·try dsimp only
                omega
             ·refine wp_exit' (to_k0 (fun _ _ h => h) (hK48 _ _ _ _ _ ?_))
              clear hK48
              refine wp_reg ?_
              refine ol_r (r_move rfl) rfl ?_
              refine ol_r (r_add rfl rfl (by omega)) rfl ?_
              refine ol_r (r_assign rfl) rfl ?_
              refine ol_nil (to_k0 (fun _ _ h => h) (hK45 ((k + 1, _, g5, _, _, _)) _ _ ?_ ?_ (sub_cons rfl (sub_cons rfl sub_nil)) (sub_cons rfl (sub_cons rfl (sub_cons rfl (sub_cons rfl (sub_cons rfl (sub_cons rfl (sub_cons rfl sub_nil))))))) (by exact (subH_row rfl (by first | (dsimp only; rfl; done) | (rfl; done) | (dsimp only; done)) (subH_same rfl subH_nil))) (subH_same rfl (subH_same rfl (subH_same rfl subH_nil)))))
              ·try dsimp only
               obtain rfl : j = 4 := by omega
               exact ⟨hm5, hg5.next nbl_P hx5, hN5⟩
              ·try dsimp only
               omega
           ·refine wp_exit' (to_k0 (fun _ _ h => h) (hK43 _ _ _ _ _ ?_))
            clear hK43
            refine wp_seq' fun K57 hK57 => ?_
            refine wp_reg ?_
            refine ol_r (r_move rfl) rfl ?_
            refine ol_r (r_len rfl sl45) rfl ?_
            refine ol_r (r_move rfl) rfl ?_
            refine ol_r (r_len rfl sl45) rfl ?_
            refine ol_r (r_gtr rfl rfl) rfl ?_
            refine ol_nil (to_k0 (fun _ _ h => h) (hK57 _ _ _ _ _ ?_))
            clear hK57
            first | refine wp_condD rfl (fun hc103 => ?_) (fun hc103 => ?_) | refine wp_condN rfl (fun hc103 => ?_) (fun hc103 => ?_) | refine wp_condNB rfl (fun hc103 => ?_) (fun hc103 => ?_) | refine wp_cond' rfl (fun hc103 => ?_) (fun hc103 => ?_)
            ·refine wp_reg ?_
             refine ol_swap 14 74 (by decide) rfl rfl ?_
             refine ol_r (r_move rfl) rfl ?_
             refine ol_r (r_assign rfl) rfl ?_
             refine ol_nil (to_k0 (fun _ _ h => h) (hK37 _ _ _ _ _ ?_))
             clear hK37
             refine wp_reg ?_
             refine ol_r (r_add rfl rfl (by omega)) rfl ?_
             refine ol_r (r_move rfl) rfl ?_
             refine ol_nil (to_k0 (fun _ _ h => h) (hK34 ((q + 1, _, g, _, _, _)) _ _ ?_ ?_ (sub_cons rfl (sub_cons rfl sub_nil)) (sub_cons rfl (sub_cons rfl (sub_cons rfl (sub_cons rfl (sub_cons rfl sub_nil))))) (by exact (subH_row rfl (by first | (dsimp only; rfl; done) | (rfl; done) | (dsimp only; done)) (subH_same rfl subH_nil))) (subH_same rfl subH_nil)))
             ·try dsimp only
              exact ⟨by omega, hm4, hC.group hsrt hx65 hg (by omega) g (by rw [if_pos (by omega)]), hN4⟩
             ·try dsimp only
              omega
            ·refine wp_skip' (to_k0 (fun _ _ h => h) (hK37 _ _ _ _ _ ?_))
             clear hK37
             refine wp_reg ?_
             refine ol_r (r_add rfl rfl (by omega)) rfl ?_
             refine ol_r (r_move rfl) rfl ?_
             refine ol_nil (to_k0 (fun _ _ h => h) (hK34 ((q + 1, _, bs, _, _, _)) _ _ ?_ ?_ (sub_cons rfl (sub_cons rfl sub_nil)) (sub_cons rfl (sub_cons rfl (sub_cons rfl (sub_cons rfl (sub_cons rfl sub_nil))))) (by exact (subH_row rfl (by first | (dsimp only; rfl; done) | (rfl; done) | (dsimp only; done)) (subH_same rfl subH_nil))) (subH_same rfl subH_nil)))
             ·try dsimp only
              exact ⟨by omega, hm, hC.group hsrt hx65 hg (by omega) bs (by rw [if_neg (by omega)]), hN4⟩
             ·try dsimp only
              omega
        ·refine wp_exit' (to_k0 (fun _ _ h => h) (hK32 _ _ _ _ _ ?_))
         clear hK32
         refine wp_seq' fun K58 hK58 => ?_
         refine wp_reg ?_
         refine ol_r (r_move rfl) rfl ?_
         refine ol_call rfl rfl cb68 rfl (fun w1 hb1 hs1 hB1 => ?_)
         refine Calls.mono (sort_tiles _ 14 _ _ _ bs _ _ _ hB1 hs1 rfl (by omega)) ?_
         rintro e w2 ⟨rfl, hbw, hs2, hB2, hkd2⟩
         refine After.sat rfl hb1 hbw hs2 hB2 (hkd2.imp (fun _ h => h.elim)) ?_
         clear hkd2 hB2 hs2 hbw hB1 hs1 hb1 w2 w1
         refine ol_nil (to_k0 (fun _ _ h => h) (hK58 _ _ _ _ _ ?_))
         clear hK58
         refine wp_seq' fun K59 hK59 => ?_
         refine wp_reg ?_
         refine ol_r (r_move rfl) rfl ?_
         refine ol_r (r_assign rfl) rfl ?_
         refine ol_r (r_assign rfl) rfl ?_
         refine ol_nil (to_k0 (fun _ _ h => h) (hK59 _ _ _ _ _ ?_))
         clear hK59
         refine hQ.ret (rvs2 (rv_t rfl) (rv_t rfl)) (fun _ _ h => h) fun w hb hs hB hkd => ?_
         have hr := clusterR_b (Decidable.not_not.1 hc24) hC (by omega)
         exact ⟨_, _, _, by rw [hr], by rw [hr]; exact ⟨hb, hs.ok 14 _ rfl⟩⟩
end Go.Proofs.Ytjflbnbofedlkaa

/-
  The greatest group of inner tiles, by the reference.
-/

namespace Go.Proofs.Ytjflbnbofedlkaa
open Go Go.RowKit Hx
set_option linter.unusedVariables false
set_option linter.unusedSimpArgs false
set_option maxRecDepth 8000
theorem ref5_Cluster (a : Option Addr) (n c : Nat) (xs : List TileR) (w : World) (hS : Rd encTile w.heap.size w a n c xs) :
    Calls Try.prog 37 #[.slice a n c] w fun e w' => ∃ b m k, e = .returned (.tuple #[.slice b m k, .int .i64 (clusterR xs).2]) ∧ Fresh encTile 42 w w' b m k (clusterR xs).1 := by
  have hsn := hS.len
  have hsf := hS.fit
  refine enterQ (N := 104) (C := fun _ => True) (H := []) (B := w.heap.size) (args := [_]) Try.func37 rfl rfl rfl (Nat.le_refl _) (Sat.nil _ _) fun Q hQ => ?_
  refine wp_seq' fun K1 hK1 => ?_
  refine wp_reg ?_
  refine ol_r (r_assign rfl) rfl ?_
  refine ol_r (r_assign rfl) rfl ?_
  refine ol_nil (to_k0 (fun _ _ h => h) (hK1 _ _ _ _ _ ?_))
  clear hK1
  refine wp_seq' fun K2 hK2 => ?_
  refine wp_seq' fun K3 hK3 => ?_
  refine wp_reg ?_
  refine ol_r (r_move rfl) rfl ?_
  refine ol_call rfl rfl cb41 rfl (fun w1 hb1 hs1 hB1 => Calls.mono (ref5_CheckTiles _ _ _ xs _ (hS.at hb1 hB1)) ?_)
  rintro e w2 ⟨rfl, hb2⟩
  refine After.below rfl hb1 hs1 hB1 hb2 ?_
  clear hb2 hB1 hs1 hb1 w2 w1
  refine ol_r (r_assign rfl) rfl ?_
  refine ol_nil (to_k0 (fun _ _ h => h) (hK3 _ _ _ _ _ ?_))
  clear hK3
  refine wp_seq' fun K4 hK4 => ?_
  refine wp_reg ?_
  refine ol_r (r_move rfl) rfl ?_
  refine ol_r (r_neq rfl rfl) rfl ?_
  refine ol_nil (to_k0 (fun _ _ h => h) (hK4 _ _ _ _ _ ?_))
  clear hK4
  first | refine wp_condD rfl (fun hc23 => ?_) (fun hc23 => ?_) | refine wp_condN rfl (fun hc23 => ?_) (fun hc23 => ?_) | refine wp_condNB rfl (fun hc23 => ?_) (fun hc23 => ?_) | refine wp_cond' rfl (fun hc23 => ?_) (fun hc23 => ?_)
  ·refine wp_seq' fun K5 hK5 => ?_
   refine wp_reg ?_
   refine ol_r (r_move rfl) rfl ?_
   refine ol_r (r_assign rfl) rfl ?_
   refine ol_r (r_assign rfl) rfl ?_
   refine ol_nil (to_k0 (fun _ _ h => h) (hK5 _ _ _ _ _ ?_))
   clear hK5
   refine hQ.ret (rvs2 (rv_t rfl) (rv_t rfl)) (fun _ _ h => h) fun w hb hs hB hkd => ?_
   exact ⟨none, 0, 0, by rw [clusterR_e hc23], by rw [clusterR_e hc23]; exact Fresh.nil hb⟩
  ·refine wp_skip' (to_k0 (fun _ _ h => h) (hK2 _ _ _ _ _ ?_))
   clear hK2
   refine wp_seq' fun K6 hK6 => ?_
   refine wp_reg ?_
   have hgood := chkT_run (Decidable.not_not.1 hc23)
   have hsrt := hgood.2.2
   refine ol_mkmapE (encTile.val) (Value.bool) 25 rfl fun b25 => ?_
   refine ol_mkmapE (encTile.val) (Value.bool) 26 rfl fun b26 => ?_
   refine ol_r (r_assign rfl) rfl ?_
   refine ol_r (r_assign rfl) rfl ?_
   refine ol_nil (to_k0 (fun _ _ h => h) (hK6 _ _ _ _ _ ?_))
   clear hK6
   refine wp_seq' fun K7 hK7 => ?_
   refine wp_seq' fun K8 hK8 => ?_
   refine wp_reg ?_
   refine ol_r (r_move rfl) rfl ?_
   refine ol_r (r_len rfl sl45) rfl ?_
   refine ol_r (r_move rfl) rfl ?_
   refine ol_nil (to_k0 (fun _ _ h => h) (hK8 _ _ _ _ _ ?_))
   clear hK8
   refine wp_block' ?_
   apply wp_loopM (σ := Nat × TB) (fun s => s.1 ≤ n ∧ AllK xs s.1 s.2) (fun s => [(29, .int .i64 s.1)]) [(0, _), (2, _), (3, _), (5, _), (6, _), (27, _), (28, _)] (fun s => [(25, .ob b25 (MapO (pEnc encTile.val Value.bool s.2)))]) [(26, _)] (fun s => n - s.1) ((0, []))
   ·try dsimp only
    exact ⟨Nat.zero_le _, AllK.zero _⟩
   ·exact (sub_cons rfl sub_nil)
   ·exact (sub_cons rfl (sub_cons rfl (sub_cons rfl (sub_cons rfl (sub_cons rfl (sub_cons rfl (sub_cons rfl sub_nil)))))))
   ·exact (subH_same rfl subH_nil)
   ·exact (subH_same rfl subH_nil)
   ·rintro ⟨k, D⟩ ⟨hk, hD⟩
    dsimp only at hk hD ⊢
    intro K9 hK9
    refine wp_seq' fun K10 hK10 => ?_
    refine wp_reg ?_
    refine ol_r (r_lss rfl rfl) rfl ?_
    refine ol_nil (to_k0 (fun _ _ h => h) (hK10 _ _ _ _ _ ?_))
    clear hK10
    refine wp_seq' fun K11 hK11 => ?_
    first | refine wp_condD rfl (fun hc30 => ?_) (fun hc30 => ?_) | refine wp_condN rfl (fun hc30 => ?_) (fun hc30 => ?_) | refine wp_condNB rfl (fun hc30 => ?_) (fun hc30 => ?_) | refine wp_cond' rfl (fun hc30 => ?_) (fun hc30 => ?_)
    ·refine wp_skip' (to_k0 (fun _ _ h => h) (hK11 _ _ _ _ _ ?_))
     clear hK11
     refine wp_seq' fun K12 hK12 => ?_
     refine wp_block' ?_
     refine wp_seq' fun K13 hK13 => ?_
     refine wp_reg ?_
     refine ol_ixr hS rfl rfl sl45 (by omega) rfl fun x31 hx31 => ?_
     try simp only [Int.toNat_natCast] at hx31
     refine ol_r (r_ldw rfl (fun w1 hb1 hs1 hB1 => Rd.loads hS ty42 hx31 hb1)) rfl ?_
     refine ol_alloc 8 z42 rfl fun b8 => ?_
     refine ol_store (id := 8) rfl rfl rfl rfl sz42 rfl rfl (by first | decide | exact Nat.zero_lt_succ _ | simp) ?_
     refine ol_nil (to_k0 (fun _ _ h => h) (hK13 _ _ _ _ _ ?_))
     clear hK13
     refine wp_reg ?_
     refine ol_r (r_move rfl) rfl ?_
     refine ol_r (r_lda (id := 8) (n := 2) rfl rfl rfl ag42) rfl ?_
     refine ol_mapset (K := encTile.val) (V := Value.bool) (z := false) (k := x31) (id := 25) rfl rfl rfl rfl mk54 trivial ?_
     refine ol_nil (to_k0 (fun _ _ h => h) (hK12 _ _ _ _ _ ?_))
     clear hK12
     refine wp_reg ?_
     refine ol_r (r_add rfl rfl (by omega)) rfl ?_
     refine ol_r (r_move rfl) rfl ?_
     refine ol_nil (to_k0 (fun _ _ h => h) (hK9 ((k + 1, _)) _ _ ?_ ?_ (sub_cons rfl sub_nil) (sub_cons rfl (sub_cons rfl (sub_cons rfl (sub_cons rfl (sub_cons rfl (sub_cons rfl (sub_cons rfl sub_nil))))))) (by exact (subH_same rfl subH_nil)) (subH_same rfl subH_nil)))
     ·try dsimp only
      exact ⟨by omega, hD.put hx31⟩
     ·try dsimp only
      omega
    ·refine wp_exit' (to_k0 (fun _ _ h => h) (hK7 _ _ _ _ _ ?_))
     clear hK7
     refine wp_seq' fun K14 hK14 => ?_
     refine wp_seq' fun K15 hK15 => ?_
     refine wp_reg ?_
     have hall := hD.all (by omega)
     refine ol_r (r_move rfl) rfl ?_
     refine ol_r (r_len rfl sl45) rfl ?_
     refine ol_r (r_move rfl) rfl ?_
     refine ol_nil (to_k0 (fun _ _ h => h) (hK15 _ _ _ _ _ ?_))
     clear hK15
     refine wp_block' ?_
     apply wp_loopM (σ := Nat × TB) (fun s => s.1 ≤ n ∧ InnK nbR xs s.1 (isT s.2)) (fun s => [(38, .int .i64 s.1)]) [(0, _), (2, _), (3, _), (5, _), (6, _), (36, _), (37, _)] (fun s => [(26, .ob b26 (MapO (pEnc encTile.val Value.bool s.2)))]) [(25, _)] (fun s => n - s.1) ((0, []))
     ·try dsimp only
      exact ⟨Nat.zero_le _, InnK.zero _ _⟩
     ·exact (sub_cons rfl sub_nil)
     ·exact (sub_cons rfl (sub_cons rfl (sub_cons rfl (sub_cons rfl (sub_cons rfl (sub_cons rfl (sub_cons rfl sub_nil)))))))
     ·exact (subH_same rfl subH_nil)
     ·exact (subH_same rfl subH_nil)
     ·rintro ⟨i, D2⟩ ⟨hi, hI⟩
      dsimp only at hi hI ⊢
      intro K16 hK16
      refine wp_seq' fun K17 hK17 => ?_
      refine wp_reg ?_
      refine ol_r (r_lss rfl rfl) rfl ?_
      refine ol_nil (to_k0 (fun _ _ h => h) (hK17 _ _ _ _ _ ?_))
      clear hK17
      refine wp_seq' fun K18 hK18 => ?_
      first | refine wp_condD rfl (fun hc39 => ?_) (fun hc39 => ?_) | refine wp_condN rfl (fun hc39 => ?_) (fun hc39 => ?_) | refine wp_condNB rfl (fun hc39 => ?_) (fun hc39 => ?_) | refine wp_cond' rfl (fun hc39 => ?_) (fun hc39 => ?_)
      ·refine wp_skip' (to_k0 (fun _ _ h => h) (hK18 _ _ _ _ _ ?_))
       clear hK18
       refine wp_seq' fun K19 hK19 => ?_
       refine wp_block' ?_
       refine wp_seq' fun K20 hK20 => ?_
       refine wp_reg ?_
       refine ol_ixr hS rfl rfl sl45 (by omega) rfl fun x40 hx40 => ?_
       try simp only [Int.toNat_natCast] at hx40
       refine ol_r (r_ldw rfl (fun w1 hb1 hs1 hB1 => Rd.loads hS ty42 hx40 hb1)) rfl ?_
       refine ol_alloc 10 z42 rfl fun b10 => ?_
       refine ol_store (id := 10) rfl rfl rfl rfl sz42 rfl rfl (by first | decide | exact Nat.zero_lt_succ _ | simp) ?_
       refine ol_nil (to_k0 (fun _ _ h => h) (hK20 _ _ _ _ _ ?_))
       clear hK20
       refine wp_seq' fun K21 hK21 => ?_
       refine wp_reg ?_
       refine ol_r (r_move rfl) rfl ?_
       refine ol_r (r_lda (id := 10) (n := 2) rfl rfl rfl ag42) rfl ?_
       refine ol_mapset (K := encTile.val) (V := Value.bool) (z := false) (k := x40) (id := 26) rfl rfl rfl rfl mk54 trivial ?_
       refine ol_nil (to_k0 (fun _ _ h => h) (hK21 _ _ _ _ _ ?_))
       clear hK21
       refine wp_seq' fun K22 hK22 => ?_
       refine wp_reg ?_
       refine ol_r (r_lda (id := 10) (n := 2) rfl rfl rfl ag42) rfl ?_
       refine ol_call rfl rfl cb70 rfl (fun w1 hb1 hs1 hB1 => Calls.mono (ref5_around x40 _ (hgood.2.1 x40 (List.mem_of_getElem? hx40))) ?_)
       rintro e w2 ⟨rfl, hb2⟩
       refine After.below rfl hb1 hs1 hB1 hb2 ?_
       clear hb2 hB1 hs1 hb1 w2 w1
       refine ol_r (r_move rfl) rfl ?_
       refine ol_nil (to_k0 (fun _ _ h => h) (hK22 _ _ _ _ _ ?_))
       clear hK22
       refine wp_block' ?_
       apply wp_loopM (σ := Nat × TB) (fun s => s.1 ≤ 4 ∧ InnR xs (nbR x40) x40 s.1 (isT D2) (isT s.2)) (fun s => [(46, .int .i64 s.1)]) [(0, _), (2, _), (3, _), (5, _), (6, _), (10, _), (36, _), (37, _), (38, _), (45, _)] (fun s => [(26, .ob b26 (MapO (pEnc encTile.val Value.bool s.2)))]) [(10, _), (25, _)] (fun s => 4 - s.1) ((0, _))
       ·try dsimp only
        exact ⟨by omega, InnR.start fun z => isT_pS _ _ _ _⟩
       ·exact (sub_cons rfl sub_nil)
       ·exact (sub_cons rfl (sub_cons rfl (sub_cons rfl (sub_cons rfl (sub_cons rfl (sub_cons rfl (sub_cons rfl (sub_cons rfl (sub_cons rfl (sub_cons rfl sub_nil))))))))))
       ·exact (subH_same rfl subH_nil)
       ·exact (subH_same rfl (subH_same rfl subH_nil))
       ·rintro ⟨j, DR⟩ ⟨hj, hR⟩
        dsimp only at hj hR ⊢
        intro K23 hK23
        refine wp_seq' fun K24 hK24 => ?_
        refine wp_reg ?_
        refine ol_r (r_lss rfl rfl) rfl ?_
        refine ol_nil (to_k0 (fun _ _ h => h) (hK24 _ _ _ _ _ ?_))
        clear hK24
        refine wp_seq' fun K25 hK25 => ?_
        first | refine wp_condD rfl (fun hc47 => ?_) (fun hc47 => ?_) | refine wp_condN rfl (fun hc47 => ?_) (fun hc47 => ?_) | refine wp_condNB rfl (fun hc47 => ?_) (fun hc47 => ?_) | refine wp_cond' rfl (fun hc47 => ?_) (fun hc47 => ?_)
        ·refine wp_skip' (to_k0 (fun _ _ h => h) (hK25 _ _ _ _ _ ?_))
         clear hK25
         refine wp_seq' fun K26 hK26 => ?_
         refine wp_block' ?_
         refine wp_seq' fun K27 hK27 => ?_
         refine wp_reg ?_
         refine ol_aix encTile (nbR x40) rfl rfl arA114 (fun _ => rfl) rfl (by omega) rfl fun x48 hx48 => ?_
         try simp only [Int.toNat_natCast] at hx48
         refine ol_alloc 12 z42 rfl fun b12 => ?_
         refine ol_store (id := 12) rfl rfl rfl rfl sz42 rfl rfl (by first | decide | exact Nat.zero_lt_succ _ | simp) ?_
         refine ol_nil (to_k0 (fun _ _ h => h) (hK27 _ _ _ _ _ ?_))
         clear hK27
         refine wp_seq' fun K28 hK28 => ?_
         refine wp_reg ?_
         refine ol_r (r_move rfl) rfl ?_
         refine ol_r (r_lda (id := 12) (n := 2) rfl rfl rfl ag42) rfl ?_
         refine ol_r (r_look1 (K := encTile.val) (V := Value.bool) (z := false) (k := x48) (id := 25) rfl rfl rfl mk54) rfl ?_
         refine ol_r (r_not rfl) rfl ?_
         refine ol_nil (to_k0 (fun _ _ h => h) (hK28 _ _ _ _ _ ?_))
         clear hK28
         first | refine wp_condD rfl (fun hc52 => ?_) (fun hc52 => ?_) | refine wp_condN rfl (fun hc52 => ?_) (fun hc52 => ?_) | refine wp_condNB rfl (fun hc52 => ?_) (fun hc52 => ?_) | refine wp_cond' rfl (fun hc52 => ?_) (fun hc52 => ?_)
         ·refine wp_reg ?_
          refine ol_r (r_move rfl) rfl ?_
          refine ol_r (r_lda (id := 10) (n := 2) rfl rfl rfl ag42) rfl ?_
          refine ol_mapset (K := encTile.val) (V := Value.bool) (z := false) (k := x40) (id := 26) rfl rfl rfl rfl mk54 trivial ?_
          refine ol_nil (to_k0 (fun _ _ h => h) (hK26 _ _ _ _ _ ?_))
          clear hK26
          refine wp_reg ?_
          refine ol_r (r_add rfl rfl (by omega)) rfl ?_
          refine ol_r (r_move rfl) rfl ?_
          refine ol_nil (to_k0 (fun _ _ h => h) (hK23 ((j + 1, _)) _ _ ?_ ?_ (sub_cons rfl sub_nil) (sub_cons rfl (sub_cons rfl (sub_cons rfl (sub_cons rfl (sub_cons rfl (sub_cons rfl (sub_cons rfl (sub_cons rfl (sub_cons rfl (sub_cons rfl sub_nil)))))))))) (by exact (subH_same rfl subH_nil)) (subH_same rfl (subH_same rfl subH_nil))))
          ·try dsimp only
           exact ⟨by omega, hR.no hx48 ((hall x48).symm.trans hc52) fun z => isT_pS _ _ _ _⟩
          ·try dsimp only
           omega
         ·refine wp_skip' (to_k0 (fun _ _ h => h) (hK26 _ _ _ _ _ ?_))
          clear hK26
          refine wp_reg ?_
          refine ol_r (r_add rfl rfl (by omega)) rfl ?_
          refine ol_r (r_move rfl) rfl ?_
          refine ol_nil (to_k0 (fun _ _ h => h) (hK23 ((j + 1, _)) _ _ ?_ ?_ (sub_cons rfl sub_nil) (sub_cons rfl (sub_cons rfl (sub_cons rfl (sub_cons rfl (sub_cons rfl (sub_cons rfl (sub_cons rfl (sub_cons rfl (sub_cons rfl (sub_cons rfl sub_nil)))))))))) (by exact (subH_same rfl subH_nil)) (subH_same rfl (subH_same rfl subH_nil))))
          ·try dsimp only
           exact ⟨by omega, hR.yes hx48 ((hall x48).symm.trans hc52)⟩
          ·try dsimp only
           omega
        ·refine wp_exit' (to_k0 (fun _ _ h => h) (hK19 _ _ _ _ _ ?_))
         clear hK19
         refine wp_reg ?_
         refine ol_r (r_add rfl rfl (by omega)) rfl ?_
         refine ol_r (r_move rfl) rfl ?_
         refine ol_nil (to_k0 (fun _ _ h => h) (hK16 ((i + 1, _)) _ _ ?_ ?_ (sub_cons rfl sub_nil) (sub_cons rfl (sub_cons rfl (sub_cons rfl (sub_cons rfl (sub_cons rfl (sub_cons rfl (sub_cons rfl sub_nil))))))) (by exact (subH_same rfl subH_nil)) (subH_same rfl subH_nil)))
         ·try dsimp only
          exact ⟨by omega, hR.put hI hx40 (show (4 : Nat) ≤ j by omega)⟩
         ·try dsimp only
          omega
      ·refine wp_exit' (to_k0 (fun _ _ h => h) (hK14 _ _ _ _ _ ?_))
       clear hK14
       refine wp_seq' fun K29 hK29 => ?_
       refine wp_reg ?_
       refine ol_nilrow 13 42 2 ?_
       refine ol_r (r_assign rfl) rfl ?_
       refine ol_nil (to_k0 (fun _ _ h => h) (hK29 _ _ _ _ _ ?_))
       clear hK29
       refine wp_seq' fun K30 hK30 => ?_
       refine wp_seq' fun K31 hK31 => ?_
       refine wp_reg ?_
       refine ol_r (r_move rfl) rfl ?_
       refine ol_r (r_len rfl sl45) rfl ?_
       refine ol_r (r_move rfl) rfl ?_
       refine ol_nil (to_k0 (fun _ _ h => h) (hK31 _ _ _ _ _ ?_))
       clear hK31
       refine wp_block' ?_
       apply wp_loopM (σ := Nat × TB × List TileR × Option Addr × Nat × Nat) (fun s => s.1 ≤ n ∧ s.2.2.2.2.1 = s.2.2.1.length ∧ Clu xs s.1 (isT s.2.1) s.2.2.1) (fun s => [(59, .int .i64 s.1), (13, .slice s.2.2.2.1 s.2.2.2.2.1 s.2.2.2.2.2)]) [(2, _), (3, _), (6, _), (57, _), (58, _)] (fun s => [(13, .row s.2.2.2.1 s.2.2.2.2.1 s.2.2.2.2.2 (encTile.enc s.2.2.1) 42 2), (26, .ob b26 (MapO (pEnc encTile.val Value.bool s.2.1)))]) [(25, _)] (fun s => n - s.1) ((0, _, [], none, 0, 0))
       ·try dsimp only
        exact ⟨Nat.zero_le _, rfl, Clu.init (hI.endR (by omega))⟩
       ·exact (sub_cons rfl (sub_cons rfl sub_nil))
       ·exact (sub_cons rfl (sub_cons rfl (sub_cons rfl (sub_cons rfl (sub_cons rfl sub_nil)))))
       ·exact (subH_row rfl (by first | (dsimp only; rfl; done) | (rfl; done) | (dsimp only; done)) (subH_same rfl subH_nil))
       ·exact (subH_same rfl subH_nil)
       ·rintro ⟨q, D3, bs, ob, m, oc⟩ ⟨hq, hm, hC⟩
        dsimp only at hq hm hC ⊢
        have hbl := clu_len hC hsrt
        intro K32 hK32
        refine wp_seq' fun K33 hK33 => ?_
        refine wp_reg ?_
        refine ol_r (r_lss rfl rfl) rfl ?_
        refine ol_nil (to_k0 (fun _ _ h => h) (hK33 _ _ _ _ _ ?_))
        clear hK33
        refine wp_seq' fun K34 hK34 => ?_
        first | refine wp_condD rfl (fun hc60 => ?_) (fun hc60 => ?_) | refine wp_condN rfl (fun hc60 => ?_) (fun hc60 => ?_) | refine wp_condNB rfl (fun hc60 => ?_) (fun hc60 => ?_) | refine wp_cond' rfl (fun hc60 => ?_) (fun hc60 => ?_)
        ·refine wp_skip' (to_k0 (fun _ _ h => h) (hK34 _ _ _ _ _ ?_))
         clear hK34
         refine wp_seq' fun K35 hK35 => ?_
         refine wp_block' ?_
         refine wp_seq' fun K36 hK36 => ?_
         refine wp_reg ?_
         refine ol_ixr hS rfl rfl sl45 (by omega) rfl fun x61 hx61 => ?_
         try simp only [Int.toNat_natCast] at hx61
         refine ol_r (r_ldw rfl (fun w1 hb1 hs1 hB1 => Rd.loads hS ty42 hx61 hb1)) rfl ?_
         refine ol_alloc 15 z42 rfl fun b15 => ?_
         refine ol_store (id := 15) rfl rfl rfl rfl sz42 rfl rfl (by first | decide | exact Nat.zero_lt_succ _ | simp) ?_
         refine ol_nil (to_k0 (fun _ _ h => h) (hK36 _ _ _ _ _ ?_))
         clear hK36
         refine wp_seq' fun K37 hK37 => ?_
         refine wp_seq' fun K38 hK38 => ?_
         refine wp_reg ?_
         refine ol_r (r_move rfl) rfl ?_
         refine ol_r (r_lda (id := 15) (n := 2) rfl rfl rfl ag42) rfl ?_
         refine ol_r (r_look1 (K := encTile.val) (V := Value.bool) (z := false) (k := x61) (id := 26) rfl rfl rfl mk54) rfl ?_
         refine ol_r (r_not rfl) rfl ?_
         refine ol_nil (to_k0 (fun _ _ h => h) (hK38 _ _ _ _ _ ?_))
         clear hK38
         first | refine wp_condD rfl (fun hc66 => ?_) (fun hc66 => ?_) | refine wp_condN rfl (fun hc66 => ?_) (fun hc66 => ?_) | refine wp_condNB rfl (fun hc66 => ?_) (fun hc66 => ?_) | refine wp_cond' rfl (fun hc66 => ?_) (fun hc66 => ?_)
         ·refine wp_exit' (to_k0 (fun _ _ h => h) (hK35 _ _ _ _ _ ?_))
          clear hK35
          refine wp_reg ?_
          refine ol_r (r_add rfl rfl (by omega)) rfl ?_
          refine ol_r (r_move rfl) rfl ?_
          refine ol_nil (to_k0 (fun _ _ h => h) (hK32 ((q + 1, _, bs, _, _, _)) _ _ ?_ ?_ (sub_cons rfl (sub_cons rfl sub_nil)) (sub_cons rfl (sub_cons rfl (sub_cons rfl (sub_cons rfl (sub_cons rfl sub_nil))))) (by exact (subH_row rfl (by first | (dsimp only; rfl; done) | (rfl; done) | (dsimp only; done)) (subH_same rfl subH_nil))) (subH_same rfl subH_nil)))
          ·try dsimp only
           exact ⟨by omega, hm, hC.skip hx61 hc66⟩
          ·try dsimp only
           omega
         ·refine wp_skip' (to_k0 (fun _ _ h => h) (hK37 _ _ _ _ _ ?_))
          clear hK37
          refine wp_seq' fun K39 hK39 => ?_
          refine wp_reg ?_
          refine ol_r (r_lda (id := 15) (n := 2) rfl rfl rfl ag42) rfl ?_
          refine ol_bs1 68 rfl rfl rw45 rfl rfl rfl fun a68 => ?_
          refine ol_r (r_assign rfl) rfl ?_
          refine ol_nil (to_k0 (fun _ _ h => h) (hK39 _ _ _ _ _ ?_))
          clear hK39
          refine wp_seq' fun K40 hK40 => ?_
          refine wp_reg ?_
          refine ol_r (r_move rfl) rfl ?_
          refine ol_r (r_lda (id := 15) (n := 2) rfl rfl rfl ag42) rfl ?_
          refine ol_mapset (K := encTile.val) (V := Value.bool) (z := false) (k := x61) (id := 26) rfl rfl rfl rfl mk54 trivial ?_
          refine ol_nil (to_k0 (fun _ _ h => h) (hK40 _ _ _ _ _ ?_))
          clear hK40
          refine wp_seq' fun K41 hK41 => ?_
          refine wp_seq' fun K42 hK42 => ?_
          refine wp_reg ?_
          refine ol_r (r_assign rfl) rfl ?_
          refine ol_nil (to_k0 (fun _ _ h => h) (hK42 _ _ _ _ _ ?_))
          clear hK42
          refine wp_block' ?_
          apply wp_loopM (σ := Nat × TB × List TileR × Option Addr × Nat × Nat) (fun s => s.2.2.2.2.1 = s.2.2.1.length ∧ Grp nbR (isT D3) x61 (isT s.2.1) s.2.2.1 s.1 0) (fun s => [(17, .int .i64 s.1), (16, .slice s.2.2.2.1 s.2.2.2.2.1 s.2.2.2.2.2)]) [(2, _), (3, _), (6, _), (13, _), (57, _), (58, _), (59, _)] (fun s => [(68, .row s.2.2.2.1 s.2.2.2.2.1 s.2.2.2.2.2 (encTile.enc s.2.2.1) 42 2), (26, .ob b26 (MapO (pEnc encTile.val Value.bool s.2.1)))]) [(13, _), (15, _), (25, _)] (fun s => n - s.1) ((0, _, [x61], _, 1, _))
          ·try dsimp only
           exact ⟨rfl, Grp.start hc66 (fun x => isT_pS _ _ _ _)⟩
          ·exact (sub_cons rfl (sub_cons rfl sub_nil))
          ·exact (sub_cons rfl (sub_cons rfl (sub_cons rfl (sub_cons rfl (sub_cons rfl (sub_cons rfl (sub_cons rfl sub_nil)))))))
          ·exact (subH_row rfl (by first | (dsimp only; rfl; done) | (rfl; done) | (dsimp only; done)) (subH_same rfl subH_nil))
          ·exact (subH_same rfl (subH_same rfl (subH_same rfl subH_nil)))
          ·rintro ⟨k, D4, g, oa, m4, oc4⟩ ⟨hm4, hg⟩
           dsimp only at hm4 hg ⊢
           have hgl := hg.len (fun x hx => hC.inn hx)
           intro K43 hK43
           refine wp_seq' fun K44 hK44 => ?_
           refine wp_seq' fun K45 hK45 => ?_
           refine wp_reg ?_
           refine ol_r (r_move rfl) rfl ?_
           refine ol_r (r_move rfl) rfl ?_
           refine ol_r (r_len rfl sl45) rfl ?_
           refine ol_r (r_lss rfl rfl) rfl ?_
           refine ol_nil (to_k0 (fun _ _ h => h) (hK45 _ _ _ _ _ ?_))
           clear hK45
           first | refine wp_condD rfl (fun hc74 => ?_) (fun hc74 => ?_) | refine wp_condN rfl (fun hc74 => ?_) (fun hc74 => ?_) | refine wp_condNB rfl (fun hc74 => ?_) (fun hc74 => ?_) | refine wp_cond' rfl (fun hc74 => ?_) (fun hc74 => ?_)
           ·refine wp_skip' (to_k0 (fun _ _ h => h) (hK44 _ _ _ _ _ ?_))
            clear hK44
            refine wp_seq' fun K46 hK46 => ?_
            refine wp_block' ?_
            refine wp_seq' fun K47 hK47 => ?_
            refine wp_reg ?_
            refine ol_r (r_move rfl) rfl ?_
            refine ol_r (r_move rfl) rfl ?_
            refine ol_ixo (id := 68) encTile _ rfl rfl rfl rfl sl45 (by omega) rfl fun x79 hx79 => ?_
            try simp only [Int.toNat_natCast] at hx79
            try simp only [Int.toNat_natCast] at hx79
            refine ol_r (r_ldw rfl (fun w1 hb1 hs1 hB1 => ld_own (id := 68) hs1 rfl rfl ty42 hx79)) rfl ?_
            have hp79 := hgood.2.1 x79 (hC.inn (hg.inn x79 (List.mem_of_getElem? hx79)))
            refine ol_call rfl rfl cb70 rfl (fun w1 hb1 hs1 hB1 => Calls.mono (ref5_around x79 _ hp79) ?_)
            rintro e w2 ⟨rfl, hb2⟩
            refine After.below rfl hb1 hs1 hB1 hb2 ?_
            clear hb2 hB1 hs1 hb1 w2 w1
            refine ol_r (r_move rfl) rfl ?_
            refine ol_nil (to_k0 (fun _ _ h => h) (hK47 _ _ _ _ _ ?_))
            clear hK47
            refine wp_block' ?_
            apply wp_loopM (σ := Nat × TB × List TileR × Option Addr × Nat × Nat) (fun s => s.1 ≤ 4 ∧ s.2.2.2.2.1 = s.2.2.1.length ∧ Grp nbR (isT D3) x61 (isT s.2.1) s.2.2.1 k s.1 ∧ s.2.2.1[k]? = some x79) (fun s => [(82, .int .i64 s.1), (16, .slice s.2.2.2.1 s.2.2.2.2.1 s.2.2.2.2.2)]) [(2, _), (3, _), (6, _), (13, _), (17, _), (57, _), (58, _), (59, _), (81, _)] (fun s => [(68, .row s.2.2.2.1 s.2.2.2.2.1 s.2.2.2.2.2 (encTile.enc s.2.2.1) 42 2), (26, .ob b26 (MapO (pEnc encTile.val Value.bool s.2.1)))]) [(13, _), (15, _), (25, _)] (fun s => 4 - s.1) ((0, _, g, _, _, _))
            ·try dsimp only
             exact ⟨by omega, hm4, hg, hx79⟩
            ·exact (sub_cons rfl (sub_cons rfl sub_nil))
            ·exact (sub_cons rfl (sub_cons rfl (sub_cons rfl (sub_cons rfl (sub_cons rfl (sub_cons rfl (sub_cons rfl (sub_cons rfl (sub_cons rfl sub_nil)))))))))
            ·exact (subH_row rfl (by first | (dsimp only; rfl; done) | (rfl; done) | (dsimp only; done)) (subH_same rfl subH_nil))
            ·exact (subH_same rfl (subH_same rfl (subH_same rfl subH_nil)))
            ·rintro ⟨j, D5, g5, oa5, m5, oc5⟩ ⟨hj, hm5, hg5, hx5⟩
             dsimp only at hj hm5 hg5 hx5 ⊢
             have hgl5 := hg5.len (fun x hx => hC.inn hx)
             intro K48 hK48
             refine wp_seq' fun K49 hK49 => ?_
             refine wp_reg ?_
             refine ol_r (r_lss rfl rfl) rfl ?_
             refine ol_nil (to_k0 (fun _ _ h => h) (hK49 _ _ _ _ _ ?_))
             clear hK49
             refine wp_seq' fun K50 hK50 => ?_
             first | refine wp_condD rfl (fun hc83 => ?_) (fun hc83 => ?_) | refine wp_condN rfl (fun hc83 => ?_) (fun hc83 => ?_) | refine wp_condNB rfl (fun hc83 => ?_) (fun hc83 => ?_) | refine wp_cond' rfl (fun hc83 => ?_) (fun hc83 => ?_)
             ·refine wp_skip' (to_k0 (fun _ _ h => h) (hK50 _ _ _ _ _ ?_))
              clear hK50
              refine wp_seq' fun K51 hK51 => ?_
              refine wp_block' ?_
              refine wp_seq' fun K52 hK52 => ?_
              refine wp_reg ?_
              refine ol_aix encTile (nbR x79) rfl rfl arA114 (fun _ => rfl) rfl (by omega) rfl fun x84 hx84 => ?_
              try simp only [Int.toNat_natCast] at hx84
              refine ol_alloc 19 z42 rfl fun b19 => ?_
              refine ol_store (id := 19) rfl rfl rfl rfl sz42 rfl rfl (by first | decide | exact Nat.zero_lt_succ _ | simp) ?_
              refine ol_nil (to_k0 (fun _ _ h => h) (hK52 _ _ _ _ _ ?_))
              clear hK52
              refine wp_seq' fun K53 hK53 => ?_
              refine wp_reg ?_
              refine ol_r (r_move rfl) rfl ?_
              refine ol_r (r_lda (id := 19) (n := 2) rfl rfl rfl ag42) rfl ?_
              refine ol_r (r_look1 (K := encTile.val) (V := Value.bool) (z := false) (k := x84) (id := 26) rfl rfl rfl mk54) rfl ?_
              refine ol_nil (to_k0 (fun _ _ h => h) (hK53 _ _ _ _ _ ?_))
              clear hK53
              first | refine wp_condD rfl (fun hc87 => ?_) (fun hc87 => ?_) | refine wp_condN rfl (fun hc87 => ?_) (fun hc87 => ?_) | refine wp_condNB rfl (fun hc87 => ?_) (fun hc87 => ?_) | refine wp_cond' rfl (fun hc87 => ?_) (fun hc87 => ?_)
              ·refine wp_seq' fun K54 hK54 => ?_
               refine wp_reg ?_
               refine ol_r (r_move rfl) rfl ?_
               refine ol_r (r_lda (id := 19) (n := 2) rfl rfl rfl ag42) rfl ?_
               refine ol_mapset (K := encTile.val) (V := Value.bool) (z := false) (k := x84) (id := 26) rfl rfl rfl rfl mk54 trivial ?_
               refine ol_nil (to_k0 (fun _ _ h => h) (hK54 _ _ _ _ _ ?_))
               clear hK54
               refine wp_reg ?_
               refine ol_r (r_move rfl) rfl ?_
               refine ol_r (r_lda (id := 19) (n := 2) rfl rfl rfl ag42) rfl ?_
               refine ol_bs1 92 rfl rfl rw45 rfl rfl rfl fun a92 => ?_
               refine ol_append1 (id := 68) (id2 := 92) rfl rfl rfl rfl rfl rw45 (by omega) rfl fun a93 c93 => ?_
               refine ol_r (r_assign rfl) rfl ?_
               refine ol_nil (to_k0 (fun _ _ h => h) (hK51 _ _ _ _ _ ?_))
               clear hK51
               refine wp_reg ?_
               refine ol_r (r_add rfl rfl (by omega)) rfl ?_
               refine ol_r (r_move rfl) rfl ?_
               refine ol_nil (to_k0 (fun _ _ h => h) (hK48 ((j + 1, _, g5 ++ [x84], _, _, _)) _ _ ?_ ?_ (sub_cons rfl (sub_cons rfl sub_nil)) (sub_cons rfl (sub_cons rfl (sub_cons rfl (sub_cons rfl (sub_cons rfl (sub_cons rfl (sub_cons rfl (sub_cons rfl (sub_cons rfl sub_nil))))))))) (by exact (subH_row rfl (by first | (dsimp only; rw [Enc.enc_append]; rfl; done) | (rw [Enc.enc_append]; rfl; done) | (dsimp only; done)) (subH_same rfl subH_nil))) (subH_same rfl (subH_same rfl (subH_same rfl subH_nil)))))
               ·try dsimp only
                exact ⟨by omega, by rw [List.length_append, hm5]; rfl, hg5.take nbl_R hx5 hx84 hc87 (fun z => isT_pS _ _ _ _), by rw [List.getElem?_append_left (List.getElem?_eq_some_iff.1 hx5).1]; exact hx5⟩
               ·try dsimp only
                omega
              ·refine wp_skip' (to_k0 (fun _ _ h => h) (hK51 _ _ _ _ _ ?_))
               clear hK51
               refine wp_reg ?_
               refine ol_r (r_add rfl rfl (by omega)) rfl ?_
               refine ol_r (r_move rfl) rfl ?_
               refine ol_nil (to_k0 (fun _ _ h => h) (hK48 ((j + 1, _, g5, _, _, _)) _ _ ?_ ?_ (sub_cons rfl (sub_cons rfl sub_nil)) (sub_cons rfl (sub_cons rfl (sub_cons rfl (sub_cons rfl (sub_cons rfl (sub_cons rfl (sub_cons rfl (sub_cons rfl (sub_cons rfl sub_nil))))))))) (by exact (subH_row rfl (by first | (dsimp only; rw [Enc.enc_append]; rfl; done) | (rw [Enc.enc_append]; rfl; done) | (dsimp only; done)) (subH_same rfl subH_nil))) (subH_same rfl (subH_same rfl (subH_same rfl subH_nil)))))
               ·try dsimp only
                exact ⟨by omega, hm5, hg5.skip hx5 hx84 hc87, hx5⟩
               ·try dsimp only
                omega
             ·refine wp_exit' (to_k0 (fun _ _ h => h) (hK46 _ _ _ _ _ ?_))
              clear hK46
              refine wp_reg ?_
              refine ol_r (r_move rfl) rfl ?_
              refine ol_r (r_add rfl rfl (by omega)) rfl ?_
              refine ol_r (r_assign rfl) rfl ?_
              refine ol_nil (to_k0 (fun _ _ h => h) (hK43 ((k + 1, _, g5, _, _, _)) _ _ ?_ ?_ (sub_cons rfl (sub_cons rfl sub_nil)) (sub_cons rfl (sub_cons rfl (sub_cons rfl (sub_cons rfl (sub_cons rfl (sub_cons rfl (sub_cons rfl sub_nil))))))) (by exact (subH_row rfl (by first | (dsimp only; rfl; done) | (rfl; done) | (dsimp only; done)) (subH_same rfl subH_nil))) (subH_same rfl (subH_same rfl (subH_same rfl subH_nil)))))
              ·try dsimp only
               obtain rfl : j = 4 := by omega
               exact ⟨hm5, hg5.next nbl_R hx5⟩
              ·try dsimp only
               omega
           ·refine wp_exit' (to_k0 (fun _ _ h => h) (hK41 _ _ _ _ _ ?_))
            clear hK41
            refine wp_seq' fun K55 hK55 => ?_
            refine wp_reg ?_
            refine ol_r (r_move rfl) rfl ?_
            refine ol_r (r_len rfl sl45) rfl ?_
            refine ol_r (r_move rfl) rfl ?_
            refine ol_r (r_len rfl sl45) rfl ?_
            refine ol_r (r_gtr rfl rfl) rfl ?_
            refine ol_nil (to_k0 (fun _ _ h => h) (hK55 _ _ _ _ _ ?_))
            clear hK55
            first | refine wp_condD rfl (fun hc99 => ?_) (fun hc99 => ?_) | refine wp_condN rfl (fun hc99 => ?_) (fun hc99 => ?_) | refine wp_condNB rfl (fun hc99 => ?_) (fun hc99 => ?_) | refine wp_cond' rfl (fun hc99 => ?_) (fun hc99 => ?_)
            ·refine wp_reg ?_
             refine ol_swap 13 68 (by decide) rfl rfl ?_
             refine ol_r (r_move rfl) rfl ?_
             refine ol_r (r_assign rfl) rfl ?_
             refine ol_nil (to_k0 (fun _ _ h => h) (hK35 _ _ _ _ _ ?_))
             clear hK35
             refine wp_reg ?_
             refine ol_r (r_add rfl rfl (by omega)) rfl ?_
             refine ol_r (r_move rfl) rfl ?_
             refine ol_nil (to_k0 (fun _ _ h => h) (hK32 ((q + 1, _, g, _, _, _)) _ _ ?_ ?_ (sub_cons rfl (sub_cons rfl sub_nil)) (sub_cons rfl (sub_cons rfl (sub_cons rfl (sub_cons rfl (sub_cons rfl sub_nil))))) (by exact (subH_row rfl (by first | (dsimp only; rfl; done) | (rfl; done) | (dsimp only; done)) (subH_same rfl subH_nil))) (subH_same rfl subH_nil)))
             ·try dsimp only
              exact ⟨by omega, hm4, hC.group hsrt hx61 hg (by omega) g (by rw [if_pos (by omega)])⟩
             ·try dsimp only
              omega
            ·refine wp_skip' (to_k0 (fun _ _ h => h) (hK35 _ _ _ _ _ ?_))
             clear hK35
             refine wp_reg ?_
             refine ol_r (r_add rfl rfl (by omega)) rfl ?_
             refine ol_r (r_move rfl) rfl ?_
             refine ol_nil (to_k0 (fun _ _ h => h) (hK32 ((q + 1, _, bs, _, _, _)) _ _ ?_ ?_ (sub_cons rfl (sub_cons rfl sub_nil)) (sub_cons rfl (sub_cons rfl (sub_cons rfl (sub_cons rfl (sub_cons rfl sub_nil))))) (by exact (subH_row rfl (by first | (dsimp only; rfl; done) | (rfl; done) | (dsimp only; done)) (subH_same rfl subH_nil))) (subH_same rfl subH_nil)))
             ·try dsimp only
              exact ⟨by omega, hm, hC.group hsrt hx61 hg (by omega) bs (by rw [if_neg (by omega)])⟩
             ·try dsimp only
              omega
        ·refine wp_exit' (to_k0 (fun _ _ h => h) (hK30 _ _ _ _ _ ?_))
         clear hK30
         refine wp_seq' fun K56 hK56 => ?_
         refine wp_reg ?_
         refine ol_r (r_move rfl) rfl ?_
         refine ol_call rfl rfl cb63 rfl (fun w1 hb1 hs1 hB1 => Calls.mono (ref5_InOrder _ _ _ _ bs _ (Nat.le_refl _) (Sat.rd hs1 (E := encTile) (id := 13) rfl rfl) (by omega)) ?_)
         rintro e w2 ⟨a103, n103, c103, rfl, hf103⟩
         refine After.fresh (id := 103) rfl hb1 hs1 hB1 hf103 ?_
         have hl103 := hf103.len; clear hf103 hB1 hs1 hb1 w2 w1
         refine ol_r (r_assign rfl) rfl ?_
         refine ol_r (r_assign rfl) rfl ?_
         refine ol_nil (to_k0 (fun _ _ h => h) (hK56 _ _ _ _ _ ?_))
         clear hK56
         refine hQ.ret (rvs2 (rv_t rfl) (rv_t rfl)) (fun _ _ h => h) fun w hb hs hB hkd => ?_
         have hr := clusterR_b (Decidable.not_not.1 hc23) hC (by omega)
         exact ⟨_, _, _, by rw [hr], by rw [hr]; exact ⟨hb, hs.ok 103 _ rfl⟩⟩
end Go.Proofs.Ytjflbnbofedlkaa

/-
  cmp.Or of error codes.
-/



namespace Go.Proofs.Ytjflbnbofedlkaa
open Go Go.RowKit Hx
set_option linter.unusedVariables false
set_option linter.unusedSimpArgs false
set_option maxRecDepth 8000
def orR : List Int → Int
  | [] => 0
  | x :: r => if x ≠ 0 then x else orR r
theorem orR_two (x y : Int) : orR [x, y] = if x ≠ 0 then x else y := by
  by_cases h : x = 0 <;> by_cases h1 : y = 0 <;> simp [orR, h, h1]
theorem orR2 {x y : Int} (h : ¬orR [x, y] ≠ 0) : x = 0 ∧ y = 0 := by
  have h := Decidable.not_not.1 h
  rw [orR_two] at h
  by_cases h1 : x = 0
  · rw [if_neg (fun h2 => h2 h1)] at h; exact ⟨h1, h⟩
  · rw [if_pos h1] at h; exact absurd h h1
theorem cmp_Or (a : Option Addr) (n cap : Nat) (xs : List Int) (w : World) (hl : Rd encI w.heap.size w a n cap xs) :
    Calls Try.prog 71 #[.slice a n cap] w fun e w' => e = .returned (.int .i64 (orR xs)) ∧ Below w.heap.size w w' := by
  have hn := hl.len
  have hfit := hl.fit
  subst hn
  refine enterQ (N := 18) (C := fun _ => True) (H := []) (B := w.heap.size) (args := [_]) Try.func71 rfl rfl rfl (Nat.le_refl _) (Sat.nil _ _) fun Q hQ => ?_
  refine wp_seq' fun K1 hK1 => ?_
  refine wp_reg ?_
  refine ol_r (r_assign rfl) rfl ?_
  refine ol_nil (to_k0 (fun _ _ h => h) (hK1 _ _ _ _ _ ?_))
  clear hK1
  refine wp_seq' fun K2 hK2 => ?_
  refine wp_reg ?_
  refine ol_r (r_assign rfl) rfl ?_
  refine ol_nil (to_k0 (fun _ _ h => h) (hK2 _ _ _ _ _ ?_))
  clear hK2
  refine wp_seq' fun K3 hK3 => ?_
  refine wp_seq' fun K4 hK4 => ?_
  refine wp_reg ?_
  refine ol_r (r_move rfl) rfl ?_
  refine ol_r (r_len rfl sl144) rfl ?_
  refine ol_r (r_move rfl) rfl ?_
  refine ol_nil (to_k0 (fun _ _ h => h) (hK4 _ _ _ _ _ ?_))
  clear hK4
  refine wp_block' ?_
  apply wp_loopM (σ := Nat) (fun s => s ≤ xs.length ∧ orR xs = orR (xs.drop s)) (fun s => [(8, .int .i64 s)]) [(3, _), (6, _), (7, _)] (fun s => []) [] (fun s => xs.length - s) (0)
  ·try dsimp only
   exact ⟨Nat.zero_le _, rfl⟩
  ·exact (sub_cons rfl sub_nil)
  ·exact (sub_cons rfl (sub_cons rfl (sub_cons rfl sub_nil)))
  ·exact subH_nil
  ·exact subH_nil
  ·rintro k ⟨hk, hP⟩
   intro K5 hK5
   refine wp_seq' fun K6 hK6 => ?_
   refine wp_reg ?_
   refine ol_r (r_lss rfl rfl) rfl ?_
   refine ol_nil (to_k0 (fun _ _ h => h) (hK6 _ _ _ _ _ ?_))
   clear hK6
   refine wp_seq' fun K7 hK7 => ?_
   first | refine wp_condD rfl (fun hc9 => ?_) (fun hc9 => ?_) | refine wp_condN rfl (fun hc9 => ?_) (fun hc9 => ?_) | refine wp_condNB rfl (fun hc9 => ?_) (fun hc9 => ?_) | refine wp_cond' rfl (fun hc9 => ?_) (fun hc9 => ?_)
   ·refine wp_skip' (to_k0 (fun _ _ h => h) (hK7 _ _ _ _ _ ?_))
    clear hK7
    refine wp_seq' fun K8 hK8 => ?_
    refine wp_block' ?_
    refine wp_seq' fun K9 hK9 => ?_
    refine wp_reg ?_
    refine ol_ixr hl rfl rfl sl144 (by omega) rfl fun x10 hx10 => ?_
    try simp only [Int.toNat_natCast] at hx10
    refine ol_r (r_ldw rfl (fun w1 hb1 hs1 hB1 => show Loads _ _ _ _ (.int .i64 x10) from Rd.loads hl ty26 hx10 hb1)) rfl ?_
    refine ol_r (r_assign rfl) rfl ?_
    refine ol_nil (to_k0 (fun _ _ h => h) (hK9 _ _ _ _ _ ?_))
    clear hK9
    refine wp_seq' fun K10 hK10 => ?_
    refine wp_reg ?_
    refine ol_r (r_move rfl) rfl ?_
    refine ol_r (r_move rfl) rfl ?_
    refine ol_r (r_neq rfl rfl) rfl ?_
    refine ol_nil (to_k0 (fun _ _ h => h) (hK10 _ _ _ _ _ ?_))
    clear hK10
    first | refine wp_condD rfl (fun hc14 => ?_) (fun hc14 => ?_) | refine wp_condN rfl (fun hc14 => ?_) (fun hc14 => ?_) | refine wp_condNB rfl (fun hc14 => ?_) (fun hc14 => ?_) | refine wp_cond' rfl (fun hc14 => ?_) (fun hc14 => ?_)
    ·refine wp_seq' fun K11 hK11 => ?_
     refine wp_reg ?_
     refine ol_r (r_move rfl) rfl ?_
     refine ol_r (r_assign rfl) rfl ?_
     refine ol_nil (to_k0 (fun _ _ h => h) (hK11 _ _ _ _ _ ?_))
     clear hK11
     refine hQ.ret (rvs1 (rv_t rfl)) (fun _ _ h => h) fun w hb hs hB hkd => ?_
     first
       | (refine ⟨by rw [hP, List.drop_eq_nil_of_le (by omega)]; rfl, hb⟩; done)
       | (refine ⟨by rw [hP, drop_cons_get hx10, show orR (x10 :: xs.drop (k + 1)) = x10 from if_pos hc14], hb⟩; done)
    ·refine wp_skip' (to_k0 (fun _ _ h => h) (hK8 _ _ _ _ _ ?_))
     clear hK8
     refine wp_reg ?_
     refine ol_r (r_add rfl rfl (by omega)) rfl ?_
     refine ol_r (r_move rfl) rfl ?_
     refine ol_nil (to_k0 (fun _ _ h => h) (hK5 (k + 1) _ _ ?_ ?_ (sub_cons rfl sub_nil) (sub_cons rfl (sub_cons rfl (sub_cons rfl sub_nil))) (by exact subH_nil) subH_nil))
     ·try dsimp only
      refine ⟨by omega, ?_⟩
      rw [hP, drop_cons_get hx10]
      exact if_neg hc14
     ·try dsimp only
      omega
   ·refine wp_exit' (to_k0 (fun _ _ h => h) (hK3 _ _ _ _ _ ?_))
    clear hK3
    refine wp_seq' fun K12 hK12 => ?_
    refine wp_reg ?_
    refine ol_r (r_move rfl) rfl ?_
    refine ol_r (r_assign rfl) rfl ?_
    refine ol_nil (to_k0 (fun _ _ h => h) (hK12 _ _ _ _ _ ?_))
    clear hK12
    refine hQ.ret (rvs1 (rv_t rfl)) (fun _ _ h => h) fun w hb hs hB hkd => ?_
    first
      | (refine ⟨by rw [hP, List.drop_eq_nil_of_le (by omega)]; rfl, hb⟩; done)
      | (refine ⟨by rw [hP, drop_cons_get hx10, show orR (x10 :: xs.drop (k + 1)) = x10 from if_pos hc14], hb⟩; done)
end Go.Proofs.Ytjflbnbofedlkaa

/-
  Tiles in two lists: both programs.
-/



namespace Go.Proofs.Ytjflbnbofedlkaa
open Go Go.RowKit Hx
set_option linter.unusedVariables false
set_option linter.unusedSimpArgs false
set_option maxRecDepth 8000
theorem tcf_neg {a b : TileR} : tcf a b < 0 ↔ tlt a b = true := by rw [← tcf_lt]; unfold ltOf; simp
theorem tcf_zero {a b : TileR} : tcf a b = 0 ↔ a = b := by
  constructor
  · intro h
    unfold tcf orL orL orL cmpI at h
    refine Prod.ext ?_ ?_ <;> (repeat' split at h) <;> omega
  · rintro rfl
    have h1 := tcf_neg (a := a) (b := a)
    rw [tlt_tot.irrefl] at h1
    unfold tcf orL orL orL cmpI
    simp
structure TPlace (xs : List TileR) (t : TileR) (k : Nat) : Prop where
  le : k ≤ xs.length
  low : k = 0 ∨ ∃ y, xs[k - 1]? = some y ∧ tlt y t = true
  high : k = xs.length ∨ ∃ y, xs[k]? = some y ∧ tlt y t = false
theorem TPlace.mem {xs : List TileR} {t : TileR} {k : Nat} (h : TPlace xs t k) (hs : xs.Pairwise fun a b => tlt a b = true) (hm : t ∈ xs) : xs[k]? = some t := by
  obtain ⟨j, hj, rfl⟩ := List.mem_iff_getElem.1 hm
  have hp := List.pairwise_iff_getElem.1 hs
  by_cases h1 : j < k
  · rcases h.low with h2 | ⟨y, hy, hyt⟩
    · omega
    · obtain ⟨hk, rfl⟩ := List.getElem?_eq_some_iff.1 hy
      by_cases h3 : j = k - 1
      · subst h3; rw [tlt_tot.irrefl] at hyt; cases hyt
      · have := hp j (k - 1) hj hk (by omega)
        rw [tlt_tot.asym _ _ this] at hyt; cases hyt
  · by_cases h2 : j = k
    · subst h2; exact List.getElem?_eq_getElem hj
    · rcases h.high with h3 | ⟨y, hy, hyt⟩
      · omega
      · obtain ⟨hk, rfl⟩ := List.getElem?_eq_some_iff.1 hy
        rw [hp k j hk hj (by omega)] at hyt; cases hyt
theorem binarySearch_tile (a : Option Addr) (n cap : Nat) (xs : List TileR) (t : TileR) (w : World) (hl : Rd encTile w.heap.size w a n cap xs) (hn1 : n ≤ 1000000000000) :
    Calls Try.prog 72 #[.slice a n cap, encTile.val t, .func (.func 69) #[] #[]] w fun e w' => ∃ (k : Nat) (ok : Bool), TPlace xs t k ∧ (ok = true ↔ xs[k]? = some t) ∧ e = .returned (.tuple #[.int .i64 k, .bool ok]) ∧ Below w.heap.size w w' := by
  have hn := hl.len
  have hfit := hl.fit
  subst hn
  refine enterQ (N := 49) (C := fun _ => True) (H := []) (B := w.heap.size) (args := [_, _, _]) Try.func72 rfl rfl rfl (Nat.le_refl _) (Sat.nil _ _) fun Q hQ => ?_
  refine wp_seq' fun K1 hK1 => ?_
  refine wp_reg ?_
  refine ol_box 4 rfl rfl rfl fun b4 => ?_
  refine ol_r (r_assign rfl) rfl ?_
  refine ol_r (r_assign rfl) rfl ?_
  refine ol_nil (to_k0 (fun _ _ h => h) (hK1 _ _ _ _ _ ?_))
  clear hK1
  refine wp_seq' fun K2 hK2 => ?_
  refine wp_reg ?_
  refine ol_r (r_move rfl) rfl ?_
  refine ol_r (r_len rfl sl45) rfl ?_
  refine ol_r (r_assign rfl) rfl ?_
  refine ol_nil (to_k0 (fun _ _ h => h) (hK2 _ _ _ _ _ ?_))
  clear hK2
  refine wp_seq' fun K3 hK3 => ?_
  refine wp_reg ?_
  refine ol_r (r_move rfl) rfl ?_
  refine ol_r (r_assign rfl) rfl ?_
  refine ol_r (r_assign rfl) rfl ?_
  refine ol_nil (to_k0 (fun _ _ h => h) (hK3 _ _ _ _ _ ?_))
  clear hK3
  refine wp_seq' fun K4 hK4 => ?_
  refine wp_block' ?_
  apply wp_loopM (σ := Int × Int) (fun s => 0 ≤ s.1 ∧ s.1 ≤ s.2 ∧ s.2 ≤ xs.length ∧ (s.1 = 0 ∨ ∃ y, xs[(s.1 - 1).toNat]? = some y ∧ tlt y t = true) ∧ (s.2 = xs.length ∨ ∃ y, xs[s.2.toNat]? = some y ∧ tlt y t = false)) (fun s => [(9, .int .i64 s.1), (10, .int .i64 s.2)]) [(0, _), (2, _), (4, _), (6, _), (7, _), (8, _)] (fun s => []) [(4, _)] (fun s => (s.2 - s.1).toNat) ((0, xs.length))
  ·try dsimp only
   exact ⟨by omega, by omega, by omega, .inl rfl, .inl rfl⟩
  ·exact (sub_cons rfl (sub_cons rfl sub_nil))
  ·exact (sub_cons rfl (sub_cons rfl (sub_cons rfl (sub_cons rfl (sub_cons rfl (sub_cons rfl sub_nil))))))
  ·exact subH_nil
  ·exact (subH_same rfl subH_nil)
  ·rintro ⟨i, j⟩ ⟨h1, h2, h3, h4, h5⟩
   dsimp only at h1 h2 h3 h4 h5 ⊢
   intro K5 hK5
   refine wp_seq' fun K6 hK6 => ?_
   refine wp_seq' fun K7 hK7 => ?_
   refine wp_reg ?_
   refine ol_r (r_move rfl) rfl ?_
   refine ol_r (r_move rfl) rfl ?_
   refine ol_r (r_lss rfl rfl) rfl ?_
   refine ol_nil (to_k0 (fun _ _ h => h) (hK7 _ _ _ _ _ ?_))
   clear hK7
   first | refine wp_condD rfl (fun hc17 => ?_) (fun hc17 => ?_) | refine wp_condN rfl (fun hc17 => ?_) (fun hc17 => ?_) | refine wp_condNB rfl (fun hc17 => ?_) (fun hc17 => ?_) | refine wp_cond' rfl (fun hc17 => ?_) (fun hc17 => ?_)
   ·refine wp_skip' (to_k0 (fun _ _ h => h) (hK6 _ _ _ _ _ ?_))
    clear hK6
    refine wp_block' ?_
    refine wp_seq' fun K8 hK8 => ?_
    refine wp_reg ?_
    refine ol_r (r_move rfl) rfl ?_
    refine ol_r (r_move rfl) rfl ?_
    refine ol_r (r_add rfl rfl (by omega)) rfl ?_
    refine ol_r (r_conv (k2 := .u64) rfl (by kernel_rfl) (by kernel_rfl) (wrap_u64 (by omega))) rfl ?_
    refine ol_r (r_shr1 rfl rfl) rfl ?_
    refine ol_r (r_conv (k2 := .i64) rfl (by kernel_rfl) (by kernel_rfl) (IntWalk.i64_in _ (by omega))) rfl ?_
    refine ol_r (r_assign rfl) rfl ?_
    refine ol_nil (to_k0 (fun _ _ h => h) (hK8 _ _ _ _ _ ?_))
    clear hK8
    refine wp_seq' fun K9 hK9 => ?_
    refine wp_regq (by kernel_rfl) (by kernel_rfl) ?_
    refine ql_r (r_move rfl) rfl ?_
    refine ql_r (r_move rfl) rfl ?_
    refine ql_r (r_move rfl) rfl ?_
    refine ql_ixr hl rfl rfl sl45 (by omega) rfl fun x27 hx27 => ?_
    try simp only [Int.toNat_natCast] at hx27
    refine ql_r (r_ldw rfl (fun w1 hb1 hs1 hB1 => Rd.loads hl ty42 hx27 hb1)) rfl ?_
    refine ql_r (r_lda (id := 4) (n := 2) rfl rfl rfl ag42) rfl ?_
    refine ql_call rfl rfl cb69 rfl (fun w1 hb1 hs1 hB1 => match_tileOrder x27 t _) ?_
    refine ql_r (r_lss rfl rfl) rfl ?_
    refine ql_nil (to_k0 (fun _ _ h => h) (hK9 _ _ _ _ _ ?_))
    clear hK9
    first | refine wp_condD rfl (fun hc31 => ?_) (fun hc31 => ?_) | refine wp_condN rfl (fun hc31 => ?_) (fun hc31 => ?_) | refine wp_condNB rfl (fun hc31 => ?_) (fun hc31 => ?_) | refine wp_cond' rfl (fun hc31 => ?_) (fun hc31 => ?_)
    ·refine wp_reg ?_
     refine ol_r (r_move rfl) rfl ?_
     refine ol_r (r_add rfl rfl (by omega)) rfl ?_
     refine ol_r (r_assign rfl) rfl ?_
     refine ol_nil (to_k0 (fun _ _ h => h) (hK5 ((_, _)) _ _ ?_ ?_ (sub_cons rfl (sub_cons rfl sub_nil)) (sub_cons rfl (sub_cons rfl (sub_cons rfl (sub_cons rfl (sub_cons rfl (sub_cons rfl sub_nil)))))) (by exact subH_nil) (subH_same rfl subH_nil)))
     ·try dsimp only
      first
        | exact ⟨by omega, by omega, by omega, .inr ⟨_, by rw [Int.add_sub_cancel]; exact hx27, tcf_neg.1 hc31⟩, h5⟩
        | exact ⟨by omega, by omega, by omega, h4, .inr ⟨_, hx27, Bool.not_eq_true _ ▸ (fun h => hc31 (tcf_neg.2 h))⟩⟩
     ·try dsimp only
      omega
    ·refine wp_reg ?_
     refine ol_r (r_move rfl) rfl ?_
     refine ol_r (r_assign rfl) rfl ?_
     refine ol_nil (to_k0 (fun _ _ h => h) (hK5 ((_, _)) _ _ ?_ ?_ (sub_cons rfl (sub_cons rfl sub_nil)) (sub_cons rfl (sub_cons rfl (sub_cons rfl (sub_cons rfl (sub_cons rfl (sub_cons rfl sub_nil)))))) (by exact subH_nil) (subH_same rfl subH_nil)))
     ·try dsimp only
      first
        | exact ⟨by omega, by omega, by omega, .inr ⟨_, by rw [Int.add_sub_cancel]; exact hx27, tcf_neg.1 hc31⟩, h5⟩
        | exact ⟨by omega, by omega, by omega, h4, .inr ⟨_, hx27, Bool.not_eq_true _ ▸ (fun h => hc31 (tcf_neg.2 h))⟩⟩
     ·try dsimp only
      omega
   ·refine wp_exit' (to_k0 (fun _ _ h => h) (hK4 _ _ _ _ _ ?_))
    clear hK4
    refine wp_seq' fun K10 hK10 => ?_
    refine wp_regq (by kernel_rfl) (by kernel_rfl) ?_
    have hij : i = j := by omega
    subst hij
    obtain ⟨k, rfl⟩ := Int.eq_ofNat_of_zero_le h1
    have hPl : TPlace xs t k := ⟨by omega, by
        rcases h4 with h | ⟨y, hy, hyt⟩
        · exact .inl (by omega)
        · by_cases hk0 : k = 0
          · exact .inl hk0
          · exact .inr ⟨y, by rw [← hy]; congr 1; omega, hyt⟩, by
        rcases h5 with h | ⟨y, hy, hyt⟩
        · exact .inl (by omega)
        · exact .inr ⟨y, by simpa using hy, hyt⟩⟩
    refine ql_r (r_move rfl) rfl ?_
    refine ql_r (r_move rfl) rfl ?_
    refine ql_r (r_move rfl) rfl ?_
    refine ql_r (r_lss rfl rfl) rfl ?_
    refine ql_r (r_move rfl) rfl ?_
    refine ql_split (d := 39) rfl (fun hs39 => ?_) (fun hs39 => ?_)
    ·have phs39 := hs39; try simp only [decide_eq_true_eq, decide_eq_false_iff_not, Bool.not_eq_true', Bool.not_eq_false', Bool.not_true, Bool.not_false] at phs39
     refine ql_g rfl rfl hs39 ?_
     refine ql_r (r_move rfl) rfl ?_
     refine ql_g rfl rfl hs39 ?_
     refine ql_r (r_move rfl) rfl ?_
     refine ql_g rfl rfl hs39 ?_
     refine ql_r (r_move rfl) rfl ?_
     refine ql_g rfl rfl hs39 ?_
     refine ql_ixr hl rfl rfl sl45 (by omega) rfl fun x43 hx43 => ?_
     try simp only [Int.toNat_natCast] at hx43
     refine ql_g rfl rfl hs39 ?_
     refine ql_r (r_ldw rfl (fun w1 hb1 hs1 hB1 => Rd.loads hl ty42 hx43 hb1)) rfl ?_
     refine ql_g rfl rfl hs39 ?_
     refine ql_r (r_lda (id := 4) (n := 2) rfl rfl rfl ag42) rfl ?_
     refine ql_g rfl rfl hs39 ?_
     refine ql_call rfl rfl cb69 rfl (fun w1 hb1 hs1 hB1 => match_tileOrder x43 t _) ?_
     refine ql_g rfl rfl hs39 ?_
     refine ql_r (r_eql rfl rfl) rfl ?_
     refine ql_r (r_pickT rfl hs39 rfl) rfl ?_
     refine ql_r (r_assign rfl) rfl ?_
     refine ql_r (r_assign rfl) rfl ?_
     refine ql_nil (to_k0 (fun _ _ h => h) (hK10 _ _ _ _ _ ?_))
     clear hK10
     refine hQ.ret (rvs2 (rv_t rfl) (rv_t rfl)) (fun _ _ h => h) fun w hb hs hB hkd => ?_
     first
       | exact ⟨k, _, hPl, ⟨fun h => (by rw [hx43, tcf_zero.1 (of_decide_eq_true h)]), fun hy => (by rw [hx43] at hy; cases hy; exact decide_eq_true (tcf_zero.2 rfl))⟩, rfl, hb⟩
       | exact ⟨k, _, hPl, ⟨fun h => (by cases h), fun hy => (by have := (List.getElem?_eq_some_iff.1 hy).1; omega)⟩, rfl, hb⟩
    ·have phs39 := hs39; try simp only [decide_eq_true_eq, decide_eq_false_iff_not, Bool.not_eq_true', Bool.not_eq_false', Bool.not_true, Bool.not_false] at phs39
     refine ql_s rfl rfl hs39 rfl ?_
     refine ql_s rfl rfl hs39 rfl ?_
     refine ql_s rfl rfl hs39 rfl ?_
     refine ql_s rfl rfl hs39 rfl ?_
     refine ql_s rfl rfl hs39 rfl ?_
     refine ql_s rfl rfl hs39 rfl ?_
     refine ql_s rfl rfl hs39 rfl ?_
     refine ql_s rfl rfl hs39 rfl ?_
     refine ql_r (r_pickF rfl hs39 rfl) rfl ?_
     refine ql_r (r_assign rfl) rfl ?_
     refine ql_r (r_assign rfl) rfl ?_
     refine ql_nil (to_k0 (fun _ _ h => h) (hK10 _ _ _ _ _ ?_))
     clear hK10
     refine hQ.ret (rvs2 (rv_t rfl) (rv_t rfl)) (fun _ _ h => h) fun w hb hs hB hkd => ?_
     first
       | exact ⟨k, _, hPl, ⟨fun h => (by rw [hx43, tcf_zero.1 (of_decide_eq_true h)]), fun hy => (by rw [hx43] at hy; cases hy; exact decide_eq_true (tcf_zero.2 rfl))⟩, rfl, hb⟩
       | exact ⟨k, _, hPl, ⟨fun h => (by cases h), fun hy => (by have := (List.getElem?_eq_some_iff.1 hy).1; omega)⟩, rfl, hb⟩
theorem search_tile (a : Option Addr) (n cap : Nat) (xs : List TileR) (t : TileR) (w : World) (hl : Rd encTile w.heap.size w a n cap xs) (hn1 : n ≤ 1000000000000) (hs : xs.Pairwise fun a b => tlt a b = true) :
    Calls Try.prog 72 #[.slice a n cap, encTile.val t, .func (.func 69) #[] #[]] w fun e w' => (∃ k : Int, e = .returned (.tuple #[.int .i64 k, .bool (xs.contains t)])) ∧ Below w.heap.size w w' := by
  refine (binarySearch_tile a n cap xs t w hl hn1).mono ?_
  rintro e w2 ⟨k, ok, hP, hok, rfl, hb⟩
  have : ok = xs.contains t := by
    rw [Bool.eq_iff_iff, hok, List.contains_iff_mem]
    exact ⟨fun h => List.mem_of_getElem? h, fun h => hP.mem hs h⟩
  exact ⟨⟨k, by rw [this]⟩, hb⟩
def sharedR (a b : List TileR) : (Int × Int) × Int := if chkT a ≠ 0 then ((0, 0), chkT a) else if chkT b ≠ 0 then ((0, 0), chkT b) else (((bothT a b : Int), (a.length : Int) + b.length - bothT a b), 0)
theorem sharedR_e {a b : List TileR} (h : orR [chkT a, chkT b] ≠ 0) : sharedR a b = ((0, 0), orR [chkT a, chkT b]) := by
  by_cases h1 : chkT a = 0
  · have h2 : chkT b ≠ 0 := by rw [orR_two, if_neg (fun h => h h1)] at h; exact h
    rw [sharedR, if_neg (fun h => h h1), if_pos h2, orR_two, if_neg (fun h => h h1)]
  · rw [sharedR, if_pos h1, orR_two, if_pos h1]
theorem sharedR_a {a b : List TileR} (h : chkT a ≠ 0) : sharedR a b = ((0, 0), chkT a) := if_pos h
theorem sharedR_b {a b : List TileR} (h : chkT a = 0) (h2 : chkT b ≠ 0) : sharedR a b = ((0, 0), chkT b) := by rw [sharedR, if_neg (fun h1 => h1 h), if_pos h2]
theorem sharedR_0 {a b : List TileR} (h : chkT a = 0) (h2 : chkT b = 0) : sharedR a b = (((bothT a b : Int), (a.length : Int) + b.length - bothT a b), 0) := by rw [sharedR, if_neg (fun h1 => h1 h), if_neg (fun h1 => h1 h2)]
theorem bothT_le (a b : List TileR) : bothT a b ≤ a.length := List.length_filter_le _ _
theorem match_Shared (a : Option Addr) (n c : Nat) (xs : List TileR) (b : Option Addr) (m d : Nat) (ys : List TileR) (w : World) (hS : Rd encTile w.heap.size w a n c xs) (hT : Rd encTile w.heap.size w b m d ys) :
    Calls Try.prog 38 #[.slice a n c, .slice b m d] w fun e w' => e = .returned (.tuple #[.int .i64 (sharedR xs ys).1.1, .int .i64 (sharedR xs ys).1.2, .int .i64 (sharedR xs ys).2]) ∧ Below w.heap.size w w' := by
  have hsn := hS.len
  have hsf := hS.fit
  have htn := hT.len
  have htf := hT.fit
  refine enterQ (N := 45) (C := fun _ => True) (H := []) (B := w.heap.size) (args := [_, _]) Try.func38 rfl rfl rfl (Nat.le_refl _) (Sat.nil _ _) fun Q hQ => ?_
  refine wp_seq' fun K1 hK1 => ?_
  refine wp_reg ?_
  refine ol_r (r_assign rfl) rfl ?_
  refine ol_r (r_assign rfl) rfl ?_
  refine ol_r (r_assign rfl) rfl ?_
  refine ol_nil (to_k0 (fun _ _ h => h) (hK1 _ _ _ _ _ ?_))
  clear hK1
  refine wp_seq' fun K2 hK2 => ?_
  refine wp_seq' fun K3 hK3 => ?_
  refine wp_reg ?_
  refine ol_r (r_move rfl) rfl ?_
  refine ol_call rfl rfl cb40 rfl (fun w1 hb1 hs1 hB1 => Calls.mono (match_CheckTiles _ _ _ xs _ (hS.at hb1 hB1)) ?_)
  rintro e w2 ⟨rfl, hb2⟩
  refine After.below rfl hb1 hs1 hB1 hb2 ?_
  clear hb2 hB1 hs1 hb1 w2 w1
  refine ol_r (r_move rfl) rfl ?_
  refine ol_call rfl rfl cb40 rfl (fun w1 hb1 hs1 hB1 => Calls.mono (match_CheckTiles _ _ _ ys _ (hT.at hb1 hB1)) ?_)
  rintro e w2 ⟨rfl, hb2⟩
  refine After.below rfl hb1 hs1 hB1 hb2 ?_
  clear hb2 hB1 hs1 hb1 w2 w1
  refine ol_bsN 16 rfl rw144 rfl rfl (fun _ => by kernel_rfl) rfl fun a16 => ?_
  refine ol_call rfl rfl cb71 rfl (fun w1 hb1 hs1 hB1 => Calls.mono (cmp_Or _ _ _ [chkT xs, chkT ys] _ (Sat.rd hs1 (E := encI) (id := 16) rfl rfl)) ?_)
  rintro e w2 ⟨rfl, hb2⟩
  refine After.below rfl hb1 hs1 hB1 hb2 ?_
  clear hb2 hB1 hs1 hb1 w2 w1
  refine ol_r (r_assign rfl) rfl ?_
  refine ol_nil (to_k0 (fun _ _ h => h) (hK3 _ _ _ _ _ ?_))
  clear hK3
  refine wp_seq' fun K4 hK4 => ?_
  refine wp_reg ?_
  refine ol_r (r_move rfl) rfl ?_
  refine ol_r (r_neq rfl rfl) rfl ?_
  refine ol_nil (to_k0 (fun _ _ h => h) (hK4 _ _ _ _ _ ?_))
  clear hK4
  first | refine wp_condD rfl (fun hc19 => ?_) (fun hc19 => ?_) | refine wp_condN rfl (fun hc19 => ?_) (fun hc19 => ?_) | refine wp_condNB rfl (fun hc19 => ?_) (fun hc19 => ?_) | refine wp_cond' rfl (fun hc19 => ?_) (fun hc19 => ?_)
  ·refine wp_seq' fun K5 hK5 => ?_
   refine wp_reg ?_
   refine ol_r (r_move rfl) rfl ?_
   refine ol_r (r_assign rfl) rfl ?_
   refine ol_r (r_assign rfl) rfl ?_
   refine ol_r (r_assign rfl) rfl ?_
   refine ol_nil (to_k0 (fun _ _ h => h) (hK5 _ _ _ _ _ ?_))
   clear hK5
   refine hQ.ret (rvs3 (rv_t rfl) (rv_t rfl) (rv_t rfl)) (fun _ _ h => h) fun w hb hs hB hkd => ?_
   exact ⟨by rw [sharedR_e hc19], hb⟩
  ·refine wp_skip' (to_k0 (fun _ _ h => h) (hK2 _ _ _ _ _ ?_))
   clear hK2
   refine wp_seq' fun K6 hK6 => ?_
   refine wp_seq' fun K7 hK7 => ?_
   refine wp_reg ?_
   refine ol_r (r_move rfl) rfl ?_
   obtain ⟨h01, h02⟩ := orR2 hc19
   have hgx := chkT_run h01
   have hgy := chkT_run h02
   refine ol_r (r_len rfl sl45) rfl ?_
   refine ol_r (r_move rfl) rfl ?_
   refine ol_nil (to_k0 (fun _ _ h => h) (hK7 _ _ _ _ _ ?_))
   clear hK7
   refine wp_block' ?_
   apply wp_loopM (σ := Nat × Int) (fun s => s.1 ≤ n ∧ s.2 = bothT (xs.take s.1) ys) (fun s => [(23, .int .i64 s.1), (4, .int .i64 s.2)]) [(0, _), (1, _), (5, _), (6, _), (21, _), (22, _)] (fun s => []) [(16, _)] (fun s => n - s.1) ((0, 0))
   ·try dsimp only
    exact ⟨Nat.zero_le _, rfl⟩
   ·exact (sub_cons rfl (sub_cons rfl sub_nil))
   ·exact (sub_cons rfl (sub_cons rfl (sub_cons rfl (sub_cons rfl (sub_cons rfl (sub_cons rfl sub_nil))))))
   ·exact subH_nil
   ·exact (subH_same rfl subH_nil)
   ·rintro ⟨k, q⟩ ⟨hk, hq⟩
    dsimp only at hk hq ⊢
    have hqk := bothT_le (xs.take k) ys
    rw [List.length_take] at hqk
    intro K8 hK8
    refine wp_seq' fun K9 hK9 => ?_
    refine wp_reg ?_
    refine ol_r (r_lss rfl rfl) rfl ?_
    refine ol_nil (to_k0 (fun _ _ h => h) (hK9 _ _ _ _ _ ?_))
    clear hK9
    refine wp_seq' fun K10 hK10 => ?_
    first | refine wp_condD rfl (fun hc24 => ?_) (fun hc24 => ?_) | refine wp_condN rfl (fun hc24 => ?_) (fun hc24 => ?_) | refine wp_condNB rfl (fun hc24 => ?_) (fun hc24 => ?_) | refine wp_cond' rfl (fun hc24 => ?_) (fun hc24 => ?_)
    ·refine wp_skip' (to_k0 (fun _ _ h => h) (hK10 _ _ _ _ _ ?_))
     clear hK10
     refine wp_seq' fun K11 hK11 => ?_
     refine wp_block' ?_
     refine wp_seq' fun K12 hK12 => ?_
     refine wp_reg ?_
     refine ol_ixr hS rfl rfl sl45 (by omega) rfl fun x25 hx25 => ?_
     try simp only [Int.toNat_natCast] at hx25
     refine ol_r (r_ldw rfl (fun w1 hb1 hs1 hB1 => Rd.loads hS ty42 hx25 hb1)) rfl ?_
     refine ol_alloc 9 z42 rfl fun b9 => ?_
     refine ol_store (id := 9) rfl rfl rfl rfl sz42 rfl rfl (by first | decide | exact Nat.zero_lt_succ _ | simp) ?_
     refine ol_nil (to_k0 (fun _ _ h => h) (hK12 _ _ _ _ _ ?_))
     clear hK12
     refine wp_seq' fun K13 hK13 => ?_
     refine wp_reg ?_
     refine ol_r (r_move rfl) rfl ?_
     refine ol_r (r_lda (id := 9) (n := 2) rfl rfl rfl ag42) rfl ?_
     refine ol_call rfl rfl cb72 rfl (fun w1 hb1 hs1 hB1 => ?_)
     refine Calls.mono (search_tile _ _ _ ys x25 _ (hT.at hb1 hB1) (by omega) hgy.2.2) ?_
     rintro e w2 ⟨⟨kk, rfl⟩, hb2⟩
     refine After.below rfl hb1 hs1 hB1 hb2 ?_
     clear hb2 hB1 hs1 hb1 w2 w1
     refine ol_r (r_move rfl) rfl ?_
     refine ol_r (r_extract rfl rfl) rfl ?_
     refine ol_r (r_extract rfl rfl) rfl ?_
     refine ol_r (r_assign rfl) rfl ?_
     refine ol_r (r_assign rfl) rfl ?_
     refine ol_nil (to_k0 (fun _ _ h => h) (hK13 _ _ _ _ _ ?_))
     clear hK13
     refine wp_seq' fun K14 hK14 => ?_
     refine wp_reg ?_
     refine ol_r (r_move rfl) rfl ?_
     refine ol_nil (to_k0 (fun _ _ h => h) (hK14 _ _ _ _ _ ?_))
     clear hK14
     first | refine wp_condD rfl (fun hc33 => ?_) (fun hc33 => ?_) | refine wp_condN rfl (fun hc33 => ?_) (fun hc33 => ?_) | refine wp_condNB rfl (fun hc33 => ?_) (fun hc33 => ?_) | refine wp_cond' rfl (fun hc33 => ?_) (fun hc33 => ?_)
     ·refine wp_reg ?_
      refine ol_r (r_move rfl) rfl ?_
      refine ol_r (r_add rfl rfl (by omega)) rfl ?_
      refine ol_r (r_assign rfl) rfl ?_
      refine ol_nil (to_k0 (fun _ _ h => h) (hK11 _ _ _ _ _ ?_))
      clear hK11
      refine wp_reg ?_
      refine ol_r (r_add rfl rfl (by omega)) rfl ?_
      refine ol_r (r_move rfl) rfl ?_
      refine ol_nil (to_k0 (fun _ _ h => h) (hK8 ((k + 1, _)) _ _ ?_ ?_ (sub_cons rfl (sub_cons rfl sub_nil)) (sub_cons rfl (sub_cons rfl (sub_cons rfl (sub_cons rfl (sub_cons rfl (sub_cons rfl sub_nil)))))) (by exact subH_nil) (subH_same rfl subH_nil)))
      ·try dsimp only
       refine ⟨by omega, ?_⟩
       rw [bothT_succ hx25, hq, if_pos hc33]; omega
      ·try dsimp only
       omega
     ·refine wp_skip' (to_k0 (fun _ _ h => h) (hK11 _ _ _ _ _ ?_))
      clear hK11
      refine wp_reg ?_
      refine ol_r (r_add rfl rfl (by omega)) rfl ?_
      refine ol_r (r_move rfl) rfl ?_
      refine ol_nil (to_k0 (fun _ _ h => h) (hK8 ((k + 1, _)) _ _ ?_ ?_ (sub_cons rfl (sub_cons rfl sub_nil)) (sub_cons rfl (sub_cons rfl (sub_cons rfl (sub_cons rfl (sub_cons rfl (sub_cons rfl sub_nil)))))) (by exact subH_nil) (subH_same rfl subH_nil)))
      ·try dsimp only
       refine ⟨by omega, ?_⟩
       rw [bothT_succ hx25, hq, if_neg (by rw [hc33]; simp)]; omega
      ·try dsimp only
       omega
    ·refine wp_exit' (to_k0 (fun _ _ h => h) (hK6 _ _ _ _ _ ?_))
     clear hK6
     refine wp_seq' fun K15 hK15 => ?_
     refine wp_reg ?_
     refine ol_r (r_move rfl) rfl ?_
     refine ol_r (r_move rfl) rfl ?_
     refine ol_r (r_len rfl sl45) rfl ?_
     refine ol_r (r_move rfl) rfl ?_
     refine ol_r (r_len rfl sl45) rfl ?_
     refine ol_r (r_add rfl rfl (by omega)) rfl ?_
     refine ol_r (r_move rfl) rfl ?_
     refine ol_r (r_sub rfl rfl (by omega)) rfl ?_
     refine ol_r (r_assign rfl) rfl ?_
     refine ol_r (r_assign rfl) rfl ?_
     refine ol_r (r_assign rfl) rfl ?_
     refine ol_nil (to_k0 (fun _ _ h => h) (hK15 _ _ _ _ _ ?_))
     clear hK15
     refine hQ.ret (rvs3 (rv_t rfl) (rv_t rfl) (rv_t rfl)) (fun _ _ h => h) fun w hb hs hB hkd => ?_
     rw [List.take_of_length_le (by omega)] at hq
     exact ⟨by rw [sharedR_0 h01 h02, ← hq, ← hsn, ← htn], hb⟩
theorem ref5_Shared (a : Option Addr) (n c : Nat) (xs : List TileR) (b : Option Addr) (m d : Nat) (ys : List TileR) (w : World) (hS : Rd encTile w.heap.size w a n c xs) (hT : Rd encTile w.heap.size w b m d ys) :
    Calls Try.prog 39 #[.slice a n c, .slice b m d] w fun e w' => e = .returned (.tuple #[.int .i64 (sharedR xs ys).1.1, .int .i64 (sharedR xs ys).1.2, .int .i64 (sharedR xs ys).2]) ∧ Below w.heap.size w w' := by
  have hsn := hS.len
  have hsf := hS.fit
  have htn := hT.len
  have htf := hT.fit
  refine enterQ (N := 55) (C := fun _ => True) (H := []) (B := w.heap.size) (args := [_, _]) Try.func39 rfl rfl rfl (Nat.le_refl _) (Sat.nil _ _) fun Q hQ => ?_
  refine wp_seq' fun K1 hK1 => ?_
  refine wp_reg ?_
  refine ol_r (r_assign rfl) rfl ?_
  refine ol_r (r_assign rfl) rfl ?_
  refine ol_r (r_assign rfl) rfl ?_
  refine ol_nil (to_k0 (fun _ _ h => h) (hK1 _ _ _ _ _ ?_))
  clear hK1
  refine wp_seq' fun K2 hK2 => ?_
  refine wp_seq' fun K3 hK3 => ?_
  refine wp_reg ?_
  refine ol_r (r_move rfl) rfl ?_
  refine ol_call rfl rfl cb41 rfl (fun w1 hb1 hs1 hB1 => Calls.mono (ref5_CheckTiles _ _ _ xs _ (hS.at hb1 hB1)) ?_)
  rintro e w2 ⟨rfl, hb2⟩
  refine After.below rfl hb1 hs1 hB1 hb2 ?_
  clear hb2 hB1 hs1 hb1 w2 w1
  refine ol_r (r_assign rfl) rfl ?_
  refine ol_nil (to_k0 (fun _ _ h => h) (hK3 _ _ _ _ _ ?_))
  clear hK3
  refine wp_seq' fun K4 hK4 => ?_
  refine wp_reg ?_
  refine ol_r (r_move rfl) rfl ?_
  refine ol_r (r_neq rfl rfl) rfl ?_
  refine ol_nil (to_k0 (fun _ _ h => h) (hK4 _ _ _ _ _ ?_))
  clear hK4
  first | refine wp_condD rfl (fun hc18 => ?_) (fun hc18 => ?_) | refine wp_condN rfl (fun hc18 => ?_) (fun hc18 => ?_) | refine wp_condNB rfl (fun hc18 => ?_) (fun hc18 => ?_) | refine wp_cond' rfl (fun hc18 => ?_) (fun hc18 => ?_)
  ·refine wp_seq' fun K5 hK5 => ?_
   refine wp_reg ?_
   refine ol_r (r_move rfl) rfl ?_
   refine ol_r (r_assign rfl) rfl ?_
   refine ol_r (r_assign rfl) rfl ?_
   refine ol_r (r_assign rfl) rfl ?_
   refine ol_nil (to_k0 (fun _ _ h => h) (hK5 _ _ _ _ _ ?_))
   clear hK5
   refine hQ.ret (rvs3 (rv_t rfl) (rv_t rfl) (rv_t rfl)) (fun _ _ h => h) fun w hb hs hB hkd => ?_
   exact ⟨by rw [sharedR_a hc18], hb⟩
  ·refine wp_skip' (to_k0 (fun _ _ h => h) (hK2 _ _ _ _ _ ?_))
   clear hK2
   refine wp_seq' fun K6 hK6 => ?_
   refine wp_seq' fun K7 hK7 => ?_
   refine wp_reg ?_
   refine ol_r (r_move rfl) rfl ?_
   refine ol_call rfl rfl cb41 rfl (fun w1 hb1 hs1 hB1 => Calls.mono (ref5_CheckTiles _ _ _ ys _ (hT.at hb1 hB1)) ?_)
   rintro e w2 ⟨rfl, hb2⟩
   refine After.below rfl hb1 hs1 hB1 hb2 ?_
   clear hb2 hB1 hs1 hb1 w2 w1
   refine ol_r (r_assign rfl) rfl ?_
   refine ol_nil (to_k0 (fun _ _ h => h) (hK7 _ _ _ _ _ ?_))
   clear hK7
   refine wp_seq' fun K8 hK8 => ?_
   refine wp_reg ?_
   refine ol_r (r_move rfl) rfl ?_
   refine ol_r (r_neq rfl rfl) rfl ?_
   refine ol_nil (to_k0 (fun _ _ h => h) (hK8 _ _ _ _ _ ?_))
   clear hK8
   first | refine wp_condD rfl (fun hc23 => ?_) (fun hc23 => ?_) | refine wp_condN rfl (fun hc23 => ?_) (fun hc23 => ?_) | refine wp_condNB rfl (fun hc23 => ?_) (fun hc23 => ?_) | refine wp_cond' rfl (fun hc23 => ?_) (fun hc23 => ?_)
   ·refine wp_seq' fun K9 hK9 => ?_
    refine wp_reg ?_
    refine ol_r (r_move rfl) rfl ?_
    refine ol_r (r_assign rfl) rfl ?_
    refine ol_r (r_assign rfl) rfl ?_
    refine ol_r (r_assign rfl) rfl ?_
    refine ol_nil (to_k0 (fun _ _ h => h) (hK9 _ _ _ _ _ ?_))
    clear hK9
    refine hQ.ret (rvs3 (rv_t rfl) (rv_t rfl) (rv_t rfl)) (fun _ _ h => h) fun w hb hs hB hkd => ?_
    exact ⟨by rw [sharedR_b (Decidable.not_not.1 hc18) hc23], hb⟩
   ·refine wp_skip' (to_k0 (fun _ _ h => h) (hK6 _ _ _ _ _ ?_))
    clear hK6
    refine wp_seq' fun K10 hK10 => ?_
    refine wp_reg ?_
    have h01 := Decidable.not_not.1 hc18
    have h02 := Decidable.not_not.1 hc23
    have hgx := chkT_run h01
    have hgy := chkT_run h02
    refine ol_mkmapE (encTile.val) (Value.bool) 25 rfl fun b25 => ?_
    refine ol_r (r_assign rfl) rfl ?_
    refine ol_nil (to_k0 (fun _ _ h => h) (hK10 _ _ _ _ _ ?_))
    clear hK10
    refine wp_seq' fun K11 hK11 => ?_
    refine wp_seq' fun K12 hK12 => ?_
    refine wp_reg ?_
    refine ol_r (r_move rfl) rfl ?_
    refine ol_r (r_len rfl sl45) rfl ?_
    refine ol_r (r_move rfl) rfl ?_
    refine ol_nil (to_k0 (fun _ _ h => h) (hK12 _ _ _ _ _ ?_))
    clear hK12
    refine wp_block' ?_
    apply wp_loopM (σ := Nat × TB) (fun s => s.1 ≤ n ∧ AllK xs s.1 s.2) (fun s => [(28, .int .i64 s.1)]) [(0, _), (1, _), (4, _), (5, _), (6, _), (9, _), (26, _), (27, _)] (fun s => [(25, .ob b25 (MapO (pEnc encTile.val Value.bool s.2)))]) [] (fun s => n - s.1) ((0, []))
    ·try dsimp only
     exact ⟨Nat.zero_le _, AllK.zero _⟩
    ·exact (sub_cons rfl sub_nil)
    ·exact (sub_cons rfl (sub_cons rfl (sub_cons rfl (sub_cons rfl (sub_cons rfl (sub_cons rfl (sub_cons rfl (sub_cons rfl sub_nil))))))))
    ·exact (subH_same rfl subH_nil)
    ·exact subH_nil
    ·rintro ⟨k, D⟩ ⟨hk, hD⟩
     dsimp only at hk hD ⊢
     intro K13 hK13
     refine wp_seq' fun K14 hK14 => ?_
     refine wp_reg ?_
     refine ol_r (r_lss rfl rfl) rfl ?_
     refine ol_nil (to_k0 (fun _ _ h => h) (hK14 _ _ _ _ _ ?_))
     clear hK14
     refine wp_seq' fun K15 hK15 => ?_
     first | refine wp_condD rfl (fun hc29 => ?_) (fun hc29 => ?_) | refine wp_condN rfl (fun hc29 => ?_) (fun hc29 => ?_) | refine wp_condNB rfl (fun hc29 => ?_) (fun hc29 => ?_) | refine wp_cond' rfl (fun hc29 => ?_) (fun hc29 => ?_)
     ·refine wp_skip' (to_k0 (fun _ _ h => h) (hK15 _ _ _ _ _ ?_))
      clear hK15
      refine wp_seq' fun K16 hK16 => ?_
      refine wp_block' ?_
      refine wp_seq' fun K17 hK17 => ?_
      refine wp_reg ?_
      refine ol_ixr hS rfl rfl sl45 (by omega) rfl fun x30 hx30 => ?_
      try simp only [Int.toNat_natCast] at hx30
      refine ol_r (r_ldw rfl (fun w1 hb1 hs1 hB1 => Rd.loads hS ty42 hx30 hb1)) rfl ?_
      refine ol_alloc 11 z42 rfl fun b11 => ?_
      refine ol_store (id := 11) rfl rfl rfl rfl sz42 rfl rfl (by first | decide | exact Nat.zero_lt_succ _ | simp) ?_
      refine ol_nil (to_k0 (fun _ _ h => h) (hK17 _ _ _ _ _ ?_))
      clear hK17
      refine wp_reg ?_
      refine ol_r (r_move rfl) rfl ?_
      refine ol_r (r_lda (id := 11) (n := 2) rfl rfl rfl ag42) rfl ?_
      refine ol_mapset (K := encTile.val) (V := Value.bool) (z := false) (k := x30) (id := 25) rfl rfl rfl rfl mk54 trivial ?_
      refine ol_nil (to_k0 (fun _ _ h => h) (hK16 _ _ _ _ _ ?_))
      clear hK16
      refine wp_reg ?_
      refine ol_r (r_add rfl rfl (by omega)) rfl ?_
      refine ol_r (r_move rfl) rfl ?_
      refine ol_nil (to_k0 (fun _ _ h => h) (hK13 ((k + 1, _)) _ _ ?_ ?_ (sub_cons rfl sub_nil) (sub_cons rfl (sub_cons rfl (sub_cons rfl (sub_cons rfl (sub_cons rfl (sub_cons rfl (sub_cons rfl (sub_cons rfl sub_nil)))))))) (by exact (subH_same rfl subH_nil)) subH_nil))
      ·try dsimp only
       exact ⟨by omega, hD.put hx30⟩
      ·try dsimp only
       omega
     ·refine wp_exit' (to_k0 (fun _ _ h => h) (hK11 _ _ _ _ _ ?_))
      clear hK11
      refine wp_seq' fun K18 hK18 => ?_
      refine wp_reg ?_
      refine ol_r (r_assign rfl) rfl ?_
      refine ol_nil (to_k0 (fun _ _ h => h) (hK18 _ _ _ _ _ ?_))
      clear hK18
      refine wp_seq' fun K19 hK19 => ?_
      refine wp_seq' fun K20 hK20 => ?_
      refine wp_reg ?_
      have hall := hD.all (by omega)
      refine ol_r (r_move rfl) rfl ?_
      refine ol_r (r_len rfl sl45) rfl ?_
      refine ol_r (r_move rfl) rfl ?_
      refine ol_nil (to_k0 (fun _ _ h => h) (hK20 _ _ _ _ _ ?_))
      clear hK20
      refine wp_block' ?_
      apply wp_loopM (σ := Nat × Int) (fun s => s.1 ≤ m ∧ s.2 = bothT (ys.take s.1) xs) (fun s => [(37, .int .i64 s.1), (12, .int .i64 s.2)]) [(0, _), (1, _), (4, _), (5, _), (6, _), (9, _), (35, _), (36, _)] (fun s => []) [(25, _)] (fun s => m - s.1) ((0, 0))
      ·try dsimp only
       exact ⟨Nat.zero_le _, rfl⟩
      ·exact (sub_cons rfl (sub_cons rfl sub_nil))
      ·exact (sub_cons rfl (sub_cons rfl (sub_cons rfl (sub_cons rfl (sub_cons rfl (sub_cons rfl (sub_cons rfl (sub_cons rfl sub_nil))))))))
      ·exact subH_nil
      ·exact (subH_same rfl subH_nil)
      ·rintro ⟨k2, q⟩ ⟨hk2, hq⟩
       dsimp only at hk2 hq ⊢
       have hqk := bothT_le (ys.take k2) xs
       rw [List.length_take] at hqk
       intro K21 hK21
       refine wp_seq' fun K22 hK22 => ?_
       refine wp_reg ?_
       refine ol_r (r_lss rfl rfl) rfl ?_
       refine ol_nil (to_k0 (fun _ _ h => h) (hK22 _ _ _ _ _ ?_))
       clear hK22
       refine wp_seq' fun K23 hK23 => ?_
       first | refine wp_condD rfl (fun hc38 => ?_) (fun hc38 => ?_) | refine wp_condN rfl (fun hc38 => ?_) (fun hc38 => ?_) | refine wp_condNB rfl (fun hc38 => ?_) (fun hc38 => ?_) | refine wp_cond' rfl (fun hc38 => ?_) (fun hc38 => ?_)
       ·refine wp_skip' (to_k0 (fun _ _ h => h) (hK23 _ _ _ _ _ ?_))
        clear hK23
        refine wp_seq' fun K24 hK24 => ?_
        refine wp_block' ?_
        refine wp_seq' fun K25 hK25 => ?_
        refine wp_reg ?_
        refine ol_ixr hT rfl rfl sl45 (by omega) rfl fun x39 hx39 => ?_
        try simp only [Int.toNat_natCast] at hx39
        refine ol_r (r_ldw rfl (fun w1 hb1 hs1 hB1 => Rd.loads hT ty42 hx39 hb1)) rfl ?_
        refine ol_alloc 14 z42 rfl fun b14 => ?_
        refine ol_store (id := 14) rfl rfl rfl rfl sz42 rfl rfl (by first | decide | exact Nat.zero_lt_succ _ | simp) ?_
        refine ol_nil (to_k0 (fun _ _ h => h) (hK25 _ _ _ _ _ ?_))
        clear hK25
        refine wp_seq' fun K26 hK26 => ?_
        refine wp_reg ?_
        refine ol_r (r_move rfl) rfl ?_
        refine ol_r (r_lda (id := 14) (n := 2) rfl rfl rfl ag42) rfl ?_
        refine ol_r (r_look1 (K := encTile.val) (V := Value.bool) (z := false) (k := x39) (id := 25) rfl rfl rfl mk54) rfl ?_
        refine ol_nil (to_k0 (fun _ _ h => h) (hK26 _ _ _ _ _ ?_))
        clear hK26
        first | refine wp_condD rfl (fun hc43 => ?_) (fun hc43 => ?_) | refine wp_condN rfl (fun hc43 => ?_) (fun hc43 => ?_) | refine wp_condNB rfl (fun hc43 => ?_) (fun hc43 => ?_) | refine wp_cond' rfl (fun hc43 => ?_) (fun hc43 => ?_)
        ·refine wp_reg ?_
         refine ol_r (r_move rfl) rfl ?_
         refine ol_r (r_add rfl rfl (by omega)) rfl ?_
         refine ol_r (r_assign rfl) rfl ?_
         refine ol_nil (to_k0 (fun _ _ h => h) (hK24 _ _ _ _ _ ?_))
         clear hK24
         refine wp_reg ?_
         refine ol_r (r_add rfl rfl (by omega)) rfl ?_
         refine ol_r (r_move rfl) rfl ?_
         refine ol_nil (to_k0 (fun _ _ h => h) (hK21 ((k2 + 1, _)) _ _ ?_ ?_ (sub_cons rfl (sub_cons rfl sub_nil)) (sub_cons rfl (sub_cons rfl (sub_cons rfl (sub_cons rfl (sub_cons rfl (sub_cons rfl (sub_cons rfl (sub_cons rfl sub_nil)))))))) (by exact subH_nil) (subH_same rfl subH_nil)))
         ·try dsimp only
          refine ⟨by omega, ?_⟩
          rw [bothT_succ hx39, hq, if_pos (show xs.contains x39 = true by rw [← hall]; exact hc43)]; omega
         ·try dsimp only
          omega
        ·refine wp_skip' (to_k0 (fun _ _ h => h) (hK24 _ _ _ _ _ ?_))
         clear hK24
         refine wp_reg ?_
         refine ol_r (r_add rfl rfl (by omega)) rfl ?_
         refine ol_r (r_move rfl) rfl ?_
         refine ol_nil (to_k0 (fun _ _ h => h) (hK21 ((k2 + 1, _)) _ _ ?_ ?_ (sub_cons rfl (sub_cons rfl sub_nil)) (sub_cons rfl (sub_cons rfl (sub_cons rfl (sub_cons rfl (sub_cons rfl (sub_cons rfl (sub_cons rfl (sub_cons rfl sub_nil)))))))) (by exact subH_nil) (subH_same rfl subH_nil)))
         ·try dsimp only
          refine ⟨by omega, ?_⟩
          rw [bothT_succ hx39, hq, if_neg (show ¬xs.contains x39 = true by rw [← hall]; exact fun h => Bool.noConfusion (h.symm.trans hc43))]; omega
         ·try dsimp only
          omega
       ·refine wp_exit' (to_k0 (fun _ _ h => h) (hK19 _ _ _ _ _ ?_))
        clear hK19
        refine wp_seq' fun K27 hK27 => ?_
        refine wp_reg ?_
        refine ol_r (r_move rfl) rfl ?_
        refine ol_r (r_move rfl) rfl ?_
        refine ol_r (r_len rfl sl45) rfl ?_
        refine ol_r (r_move rfl) rfl ?_
        refine ol_r (r_len rfl sl45) rfl ?_
        refine ol_r (r_add rfl rfl (by omega)) rfl ?_
        refine ol_r (r_move rfl) rfl ?_
        refine ol_r (r_sub rfl rfl (by omega)) rfl ?_
        refine ol_r (r_assign rfl) rfl ?_
        refine ol_r (r_assign rfl) rfl ?_
        refine ol_r (r_assign rfl) rfl ?_
        refine ol_nil (to_k0 (fun _ _ h => h) (hK27 _ _ _ _ _ ?_))
        clear hK27
        refine hQ.ret (rvs3 (rv_t rfl) (rv_t rfl) (rv_t rfl)) (fun _ _ h => h) fun w hb hs hB hkd => ?_
        rw [List.take_of_length_le (by omega)] at hq
        exact ⟨by rw [sharedR_0 h01 h02, bothT_comm (nodup_of_lt hgx.2.2) (nodup_of_lt hgy.2.2), ← hq, ← hsn, ← htn], hb⟩
end Go.Proofs.Ytjflbnbofedlkaa
