/-
  slices.SortFunc by cmp.Compare, and slices.Compact, of ints: the library's contracts, laid at this program.
-/
import Derived.Shelf.SlSortCmp.NoneTotal
import Derived.Shelf.Slices.CompactI
import Derived.Shelf.Small.Wraps
import Derived.Test.YtafkojlccknicaaSort
import Derived.Test.YtafkojlccknicaaOrdM
import Derived.Test.YtafkojlccknicaaHg
namespace Go.Proofs.Ytafkojlccknicaa
open Go Go.RowKit Hx
set_option linter.unusedVariables false
set_option linter.unusedSimpArgs false
set_option maxRecDepth 8000
theorem grow_none (w : World) : Go.Sort.grow (w.drewN 0) #[] = w := by simp [Go.Sort.grow, World.drewN]
theorem ltI (x y : Int) : ltOf Go.Lib.compareInt x y = decide (x < y) := by
  unfold ltOf Go.Lib.compareInt
  by_cases h : x < y
  · rw [if_pos h]; simp [h]
  · rw [if_neg h]
    by_cases h2 : y < x
    · simp [h, h2]
    · simp [h, h2]
theorem swoI : Go.Sort.SWO (ltOf Go.Lib.compareInt) := ⟨fun x => by rw [ltI]; simp, fun x y z h1 h2 => by rw [ltI] at *; simp at *; omega, fun x y z h1 h2 => by rw [ltI] at *; simp at *; omega⟩
def layF6_ren : Go.Shelf.Ren := ⟨fun | 0 => 0 | 1 => 1 | 2 => 2 | 6 => 129 | 8 => 96 | 9 => 129 | 11 => 96 | 14 => 143 | 15 => 144 | 16 => 131 | 17 => 143 | 18 => 131 | 20 => 149 | 21 => 150 | 22 => 151 | 23 => 152 | 24 => 153 | 25 => 154 | 26 => 155 | 27 => 156 | 28 => 157 | 29 => 158 | 30 => 149 | 31 => 150 | 32 => 151 | 33 => 152 | 34 => 153 | 35 => 154 | 36 => 155 | 37 => 156 | 46 => 167 | 47 => 168 | 48 => 169 | 49 => 170 | 50 => 171 | 51 => 167 | 52 => 170 | 53 => 171 | 57 => 175 | 58 => 175 | 60 => 177 | 61 => 178 | 62 => 179 | 63 => 180 | 64 => 181 | 65 => 182 | 66 => 183 | 67 => 184 | 68 => 185 | 69 => 186 | 70 => 187 | 71 => 188 | 72 => 189 | 73 => 190 | 74 => 191 | 75 => 192 | n => n, fun | 0 => 0 | 1 => 1 | 2 => 2 | 3 => 3 | 4 => 4 | 5 => 5 | 6 => 6 | 7 => 7 | 8 => 8 | 9 => 9 | 10 => 10 | 11 => 11 | 12 => 12 | 13 => 13 | 14 => 14 | 15 => 15 | 16 => 16 | 17 => 17 | 18 => 18 | 19 => 19 | 20 => 20 | 21 => 21 | 22 => 22 | 23 => 157 | 24 => 3 | 25 => 121 | 27 => 22 | 28 => 157 | 29 => 121 | 37 => 166 | 38 => 167 | 39 => 144 | 40 => 117 | 41 => 166 | 42 => 117 | 44 => 170 | 45 => 171 | 46 => 172 | 47 => 173 | 48 => 174 | 49 => 175 | 50 => 30 | 51 => 176 | 52 => 177 | 53 => 178 | 54 => 179 | 55 => 180 | 56 => 170 | 57 => 173 | 58 => 174 | 59 => 175 | 60 => 176 | 66 => 186 | 67 => 187 | 68 => 188 | 69 => 189 | 70 => 190 | 71 => 191 | 72 => 189 | 73 => 191 | 76 => 194 | 77 => 155 | 78 => 195 | 79 => 195 | 81 => 197 | 82 => 198 | 83 => 199 | 84 => 200 | 85 => 201 | 86 => 202 | 87 => 203 | 88 => 204 | 89 => 205 | 90 => 206 | 91 => 207 | 92 => 208 | 93 => 209 | 94 => 210 | 95 => 211 | 96 => 212 | n => n, fun n => n⟩
theorem layF6 : Go.Proofs.SlLaysF.n6 Try.prog layF6_ren := { mixed := by kernel_rfl, f6 := ⟨"slices.SortFunc[[]int,int]", by decide, Try.func129.trans (congrArg some (by kernel_rfl))⟩, f14 := ⟨"slices.pdqsortCmpFunc[int]", by decide, Try.func143.trans (congrArg some (by kernel_rfl))⟩, f15 := Try.func144.trans (congrArg some (by kernel_rfl)), f20 := ⟨"slices.insertionSortCmpFunc[int]", by decide, Try.func149.trans (congrArg some (by kernel_rfl))⟩, f21 := ⟨"slices.heapSortCmpFunc[int]", by decide, Try.func150.trans (congrArg some (by kernel_rfl))⟩, f22 := ⟨"slices.breakPatternsCmpFunc[int]", by decide, Try.func151.trans (congrArg some (by kernel_rfl))⟩, f23 := ⟨"slices.choosePivotCmpFunc[int]", by decide, Try.func152.trans (congrArg some (by kernel_rfl))⟩, f24 := ⟨"slices.reverseRangeCmpFunc[int]", by decide, Try.func153.trans (congrArg some (by kernel_rfl))⟩, f25 := ⟨"slices.partialInsertionSortCmpFunc[int]", by decide, Try.func154.trans (congrArg some (by kernel_rfl))⟩, f26 := ⟨"slices.partitionEqualCmpFunc[int]", by decide, Try.func155.trans (congrArg some (by kernel_rfl))⟩, f27 := ⟨"slices.partitionCmpFunc[int]", by decide, Try.func156.trans (congrArg some (by kernel_rfl))⟩, f28 := Try.func157.trans (congrArg some (by kernel_rfl)), f29 := Try.func158.trans (congrArg some (by kernel_rfl)), f46 := ⟨"slices.siftDownCmpFunc[int]", by decide, Try.func167.trans (congrArg some (by kernel_rfl))⟩, f47 := Try.func168.trans (congrArg some (by kernel_rfl)), f48 := Try.func169.trans (congrArg some (by kernel_rfl)), f49 := ⟨"slices.medianAdjacentCmpFunc[int]", by decide, Try.func170.trans (congrArg some (by kernel_rfl))⟩, f50 := ⟨"slices.medianCmpFunc[int]", by decide, Try.func171.trans (congrArg some (by kernel_rfl))⟩, f57 := ⟨"slices.order2CmpFunc[int]", by decide, Try.func175.trans (congrArg some (by kernel_rfl))⟩, t0 := Try.underlying0, a0 := Try.isAgg0, z0 := Try.sizeOf0, v0 := Try.zeroValue0, t3 := Try.underlying3, a3 := Try.isAgg3, z3 := Try.sizeOf3, v3 := Try.zeroValue3, t4 := Try.underlying4, a4 := Try.isAgg4, z4 := Try.sizeOf4, v4 := Try.zeroValue4, t5 := Try.underlying5, a5 := Try.isAgg5, z5 := Try.sizeOf5, v5 := Try.zeroValue5, t9 := Try.underlying9, a9 := Try.isAgg9, z9 := Try.sizeOf9, v9 := Try.zeroValue9, t22 := Try.underlying22, a22 := Try.isAgg22, z22 := Try.sizeOf22, v22 := Try.zeroValue22, a24 := Try.isAgg3, z24 := Try.sizeOf3, t25 := Try.underlying121, a25 := Try.isAgg121, z25 := Try.sizeOf121, v25 := Try.zeroValue121, t39 := Try.underlying144, a39 := Try.isAgg144, z39 := Try.sizeOf144, v39 := Try.zeroValue144, t45 := Try.underlying171, a45 := Try.isAgg171, z45 := Try.sizeOf171, v45 := Try.zeroValue171, t46 := Try.underlying172, a46 := Try.isAgg172, z46 := Try.sizeOf172, v46 := Try.zeroValue172, t50 := Try.underlying30, a50 := Try.isAgg30, z50 := Try.sizeOf30, v50 := Try.zeroValue30, t53 := Try.underlying178, a53 := Try.isAgg178, z53 := Try.sizeOf178, v53 := Try.zeroValue178, t55 := Try.underlying180, a55 := Try.isAgg180, z55 := Try.sizeOf180, v55 := Try.zeroValue180, t66 := Try.underlying186, a66 := Try.isAgg186, z66 := Try.sizeOf186, v66 := Try.zeroValue186, t70 := Try.underlying190, a70 := Try.isAgg190, z70 := Try.sizeOf190, v70 := Try.zeroValue190, t76 := Try.underlying194, a76 := Try.isAgg194, z76 := Try.sizeOf194, v76 := Try.zeroValue194, t77 := Try.underlying155, a77 := Try.isAgg155, z77 := Try.sizeOf155, v77 := Try.zeroValue155 }

def lay122_ren : Go.Shelf.Ren := ⟨fun | 0 => 0 | 1 => 1 | 2 => 2 | 106 => 111 | 108 => 107 | 111 => 26 | 113 => 79 | 122 => 96 | 125 => 144 | 128 => 157 | 129 => 158 | 193 => 62 | 194 => 136 | 213 => 139 | 215 => 131 | 216 => 114 | 265 => 146 | 329 => 168 | 330 => 169 | 347 => 177 | 348 => 178 | 349 => 179 | 350 => 180 | 351 => 181 | 352 => 182 | 353 => 183 | 354 => 184 | 355 => 185 | 356 => 186 | 357 => 187 | 358 => 188 | 359 => 189 | 360 => 190 | 361 => 191 | 366 => 192 | n => n, fun | 0 => 0 | 1 => 1 | 2 => 2 | 3 => 3 | 4 => 4 | 5 => 5 | 6 => 6 | 7 => 7 | 8 => 8 | 9 => 9 | 10 => 10 | 11 => 11 | 12 => 12 | 13 => 13 | 14 => 14 | 15 => 15 | 16 => 16 | 17 => 17 | 18 => 18 | 19 => 19 | 20 => 20 | 21 => 21 | 27 => 140 | 28 => 22 | 30 => 134 | 31 => 49 | 34 => 37 | 36 => 106 | 41 => 160 | 43 => 121 | 46 => 144 | 47 => 167 | 51 => 178 | 52 => 177 | 53 => 180 | 54 => 179 | 80 => 197 | 81 => 203 | 100 => 94 | 101 => 87 | 102 => 162 | 104 => 131 | 111 => 117 | 112 => 145 | 114 => 153 | 127 => 207 | 131 => 30 | 132 => 29 | 164 => 212 | 182 => 171 | 183 => 172 | 185 => 31 | 218 => 186 | 219 => 187 | 220 => 188 | 222 => 190 | 228 => 194 | 229 => 155 | 238 => 198 | 239 => 199 | 240 => 200 | 241 => 201 | 242 => 202 | 243 => 204 | 244 => 205 | 245 => 206 | 246 => 208 | 247 => 209 | 248 => 210 | 249 => 211 | n => n, fun n => n⟩
theorem lay122 : Go.Proofs.Lays.n122 Try.prog lay122_ren := { mixed := by kernel_rfl, f122 := Try.func96.trans (congrArg some (by kernel_rfl)), f215 := Try.func131.trans (congrArg some (by kernel_rfl)), t3 := Try.underlying3, a3 := Try.isAgg3, z3 := Try.sizeOf3, v3 := Try.zeroValue3, t4 := Try.underlying4, a4 := Try.isAgg4, z4 := Try.sizeOf4, v4 := Try.zeroValue4 }

theorem sortF_ints (B id : Nat) (a : Option Addr) (n c : Nat) (xs : List Int) (T : TypeId) (H : HL) (w : World) (hB : B ≤ w.heap.size) (hs : Sat B w H) (hr : Hx.look H id = some (.row a n c (encI.enc xs) T 1)) (hn : 0 < n) (hsz : n < 4611686018427387904) :
    Calls Try.prog 129 #[.slice a n c, .func (.func 96) #[] #[]] w fun e w' => e = .returned (.tuple #[]) ∧ Below B w w' ∧ Sat B w' ((id, .row a n c (encI.enc (sortI xs)) T 1) :: H) ∧ B ≤ w'.heap.size ∧ Kd (fun _ => False) w w' := by
  have hok := hs.ok id _ hr
  obtain ⟨g, rfl⟩ := row_some hok hn
  have hlt := (Ent.own_lt hok (b := g) rfl).2
  have hlen : xs.length = n := by
    have h1 := hok.1
    rw [encI_map, List.length_map] at h1
    omega
  subst hlen
  have h2 := row_holds hok
  rw [encI_map, ← List.map_toArray] at h2
  have hcmp : CmpLays1 Try.prog 96 #[] (Value.int .i64) Go.Lib.compareInt g 0 xs.toArray.size w := fun m os dk _ x y => by
    rw [Array.append_empty]
    refine (Any.cmp_Compare_int lay122 x y _).mono ?_
    rintro e w2 ⟨he, hw⟩
    exact ⟨he, 0, #[], by rw [hw, grow_none]⟩
  have h := Any.slices_SortFunc_total layF6 (Value.int .i64) (fun _ => rfl) Go.Lib.compareInt swoI 96 #[] g 0 c xs.toArray w (enters_of Try.func96 (by kernel_rfl) rfl) hcmp (holds_id h2) hlt (by simpa using hsz) (fun x y h1 h2 => by rw [ltI] at *; simp at *; omega)
  change Calls Try.prog 129 _ _ _ at h
  refine h.mono ?_
  rintro e w' ⟨rfl, nd, os, rfl⟩
  have hle : (fun x y : Int => !ltOf Go.Lib.compareInt y x) = fun x y => decide (x ≤ y) := by
    funext x y; rw [ltI]
    by_cases h : y < x
    · simp [h]
    · simp [h]; omega
  have hw : sortWorld (Value.int .i64) w g 0 nd (xs.toArray.toList.mergeSort fun x y => !ltOf Go.Lib.compareInt y x).toArray os = putW w g nd (encI.enc (sortI xs)) os := by
    unfold sortWorld putW sortI
    rw [putRow_id, encI_map, ← List.map_toArray, hle]
  rw [hw]
  exact ⟨rfl, hs.sorted hB hr (by rw [encI_map, encI_map, List.length_map, List.length_map, sortI, List.length_mergeSort])⟩
theorem sortF_ints0 (c : Nat) (a : Option Addr) (w : World) : Calls Try.prog 129 #[.slice a 0 c, .func (.func 96) #[] #[]] w fun e w' => e = .returned (.tuple #[]) ∧ Below w.heap.size w w' := by
  have h := AnyF.slices_SortFunc_none (P := Try.prog) (ρ := layF6_ren) { layF6 with } a c (.func (.func 96) #[] #[]) w
  change Calls Try.prog 129 _ _ _ at h
  refine h.mono ?_
  rintro e w' ⟨rfl, rfl⟩
  exact ⟨rfl, Below.refl _ _⟩
theorem compact_len {α : Type} [Inhabited α] [DecidableEq α] (zs : List α) : (Go.Lib.compact zs).length ≤ zs.length := by
  unfold Go.Lib.compact Go.Lib.compactUpTo
  rw [List.length_map]
  exact Nat.le_trans (List.length_filter_le _ _) (by simp)
def layC20_ren : Go.Shelf.Ren := ⟨fun | 0 => 0 | 1 => 1 | 2 => 2 | 15 => 102 | 17 => 68 | 20 => 130 | 25 => 75 | 31 => 114 | 32 => 115 | 37 => 131 | 40 => 177 | 41 => 178 | 42 => 179 | 43 => 180 | 44 => 181 | 45 => 182 | 46 => 183 | 47 => 184 | 48 => 185 | 49 => 186 | 50 => 187 | 51 => 188 | 52 => 189 | 53 => 190 | 54 => 191 | 55 => 192 | n => n, fun | 0 => 0 | 1 => 1 | 2 => 2 | 3 => 3 | 4 => 4 | 5 => 5 | 6 => 6 | 7 => 7 | 8 => 8 | 9 => 9 | 10 => 10 | 11 => 11 | 12 => 12 | 13 => 13 | 14 => 14 | 15 => 15 | 16 => 16 | 17 => 17 | 18 => 18 | 19 => 19 | 20 => 20 | 21 => 21 | 22 => 22 | 23 => 126 | 24 => 49 | 25 => 162 | 26 => 94 | 33 => 30 | 34 => 103 | 36 => 37 | 38 => 87 | 40 => 144 | 41 => 145 | 42 => 117 | 44 => 131 | 46 => 197 | 47 => 198 | 48 => 199 | 49 => 200 | 50 => 201 | 51 => 202 | 52 => 203 | 53 => 178 | 54 => 204 | 55 => 205 | 56 => 206 | 57 => 207 | 58 => 208 | 59 => 209 | 60 => 210 | 61 => 211 | 62 => 212 | n => n, fun n => n⟩
theorem layC20 : Go.Proofs.Lays2.n20 Try.prog layC20_ren := { mixed := by kernel_rfl, f20 := Try.func130.trans (congrArg some (by kernel_rfl)), t0 := Try.underlying0, a0 := Try.isAgg0, z0 := Try.sizeOf0, v0 := Try.zeroValue0, t3 := Try.underlying3, a3 := Try.isAgg3, z3 := Try.sizeOf3, v3 := Try.zeroValue3, t4 := Try.underlying4, a4 := Try.isAgg4, z4 := Try.sizeOf4, v4 := Try.zeroValue4, t22 := Try.underlying22, a22 := Try.isAgg22, z22 := Try.sizeOf22, v22 := Try.zeroValue22, i3 := by kernel_rfl }

theorem compact_ints (B id : Nat) (a : Option Addr) (n c : Nat) (xs : List Int) (T : TypeId) (H : HL) (w : World) (hB : B ≤ w.heap.size) (hs : Sat B w H) (hr : Hx.look H id = some (.row a n c (encI.enc xs) T 1)) (hn : 0 < n) (hsz : n ≤ 9223372036854775807) :
    Calls Try.prog 130 #[.slice a n c] w fun e w' => e = .returned (.slice a (Go.Lib.compact xs).length c) ∧ Below B w w' ∧ Sat B w' ((id, .row a (Go.Lib.compact xs).length c (encI.enc (Go.Lib.compact xs)) T 1) :: H) ∧ B ≤ w'.heap.size ∧ Kd (fun _ => False) w w' := by
  have hok := hs.ok id _ hr
  have hcap : n ≤ c := by
    rcases hok.2 with ⟨h1, h2⟩ | ⟨g, cap', cur, hv, hb, hg, h3, h4, h5⟩
    · omega
    · cases hv; exact h3
  obtain ⟨g, rfl⟩ := row_some hok hn
  have hlen : xs.length = n := by
    have h1 := hok.1
    rw [encI_map, List.length_map] at h1
    omega
  subst hlen
  have h2 := row_holds hok
  rw [encI_map, ← List.map_toArray] at h2
  have h := Any.slices_Compact_int layC20 g 0 c xs w (holds_id h2) hsz hcap
  change Calls Try.prog 130 _ _ _ at h
  refine h.mono ?_
  rintro e w' ⟨rfl, q, rfl⟩
  have hcl := compact_len xs
  have hw : Go.Sort.putRow (Value.int .i64) (Go.Sort.ahead w q) g 0 (Go.Lib.compact xs ++ List.replicate (xs.length - (Go.Lib.compact xs).length) 0).toArray = putW w g q (encI.enc (Go.Lib.compact xs ++ List.replicate (xs.length - (Go.Lib.compact xs).length) 0)) #[] := by
    unfold putW
    rw [Go.Sort.grow_empty, putRow_id, encI_map, ← List.map_toArray]
  rw [hw]
  have h3 := hs.sorted (nd := q) (os := #[]) (vs' := encI.enc (Go.Lib.compact xs ++ List.replicate (xs.length - (Go.Lib.compact xs).length) 0)) hB hr (by rw [encI_map, encI_map, List.length_map, List.length_map, List.length_append, List.length_replicate]; omega)
  refine ⟨rfl, h3.1, ?_, h3.2.2⟩
  have h4 := (h3.2.1.cut (id := id) (look_cons_eq _ _ _) (h := (Go.Lib.compact xs).length) hcl).shadow
  have h5 : (encI.enc (Go.Lib.compact xs ++ List.replicate (xs.length - (Go.Lib.compact xs).length) 0)).take ((Go.Lib.compact xs).length * 1) = encI.enc (Go.Lib.compact xs) := by
    rw [Enc.enc_append, Nat.mul_one]
    exact List.take_left' (by rw [encI_map, List.length_map])
  rw [h5] at h4
  exact h4
end Go.Proofs.Ytafkojlccknicaa
