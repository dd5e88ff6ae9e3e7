/-
  slices.SortFunc of spans by their beginnings: the library's contract, laid at this program.
-/
import Derived.Shelf.SlSortCmp.NoneTotal
import Derived.Shelf.Small.Wraps
import Derived.Test.YtogcclagmobkiaaSort
import Derived.Test.YtogcclagmobkiaaSpan
namespace Go.Proofs.Ytogcclagmobkiaa
open Go Go.RowKit Hx
set_option linter.unusedVariables false
set_option linter.unusedSimpArgs false
set_option maxRecDepth 8000
instance : Inhabited SpanR := ⟨⟨0, 0⟩⟩
def layF0_ren : Go.Shelf.Ren := ⟨fun | 0 => 0 | 1 => 1 | 2 => 2 | 6 => 76 | 11 => 78 | 14 => 118 | 15 => 112 | 18 => 119 | 20 => 142 | 21 => 143 | 22 => 144 | 23 => 145 | 24 => 146 | 25 => 147 | 26 => 148 | 27 => 149 | 28 => 135 | 29 => 136 | 46 => 174 | 47 => 168 | 48 => 169 | 49 => 175 | 50 => 176 | 57 => 186 | 60 => 194 | 61 => 195 | 62 => 196 | 63 => 197 | 64 => 198 | 65 => 199 | 66 => 200 | 67 => 201 | 68 => 202 | 69 => 203 | 70 => 204 | 71 => 205 | 72 => 206 | 73 => 207 | 74 => 208 | 75 => 210 | n => n, fun | 0 => 0 | 1 => 1 | 2 => 2 | 3 => 3 | 4 => 4 | 5 => 5 | 6 => 6 | 7 => 7 | 8 => 8 | 9 => 9 | 10 => 10 | 11 => 11 | 12 => 12 | 13 => 13 | 14 => 14 | 15 => 15 | 16 => 16 | 17 => 17 | 18 => 18 | 19 => 19 | 20 => 20 | 21 => 21 | 22 => 46 | 23 => 95 | 24 => 54 | 25 => 97 | 27 => 37 | 29 => 96 | 30 => 98 | 37 => 129 | 38 => 124 | 39 => 125 | 40 => 150 | 42 => 130 | 44 => 152 | 45 => 138 | 46 => 139 | 47 => 153 | 48 => 154 | 49 => 155 | 50 => 110 | 51 => 156 | 52 => 145 | 53 => 146 | 54 => 147 | 55 => 148 | 66 => 168 | 67 => 169 | 68 => 170 | 69 => 174 | 70 => 103 | 71 => 175 | 76 => 188 | 77 => 189 | 78 => 191 | 81 => 195 | 82 => 196 | 83 => 197 | 84 => 198 | 85 => 199 | 86 => 200 | 87 => 201 | 88 => 202 | 89 => 203 | 90 => 204 | 91 => 205 | 92 => 206 | 93 => 207 | 94 => 208 | 95 => 209 | 96 => 212 | n => n, fun n => n⟩
theorem layF0 : Go.Proofs.SlLaysF0.n6 Try.prog layF0_ren := { mixed := by kernel_rfl, f6 := ⟨"slices.SortFunc[[]harrier/api.Span,harrier/api.Span]", by decide, Try.func76.trans (congrArg some (by kernel_rfl))⟩, f14 := ⟨"slices.pdqsortCmpFunc[harrier/api.Span]", by decide, Try.func118.trans (congrArg some (by kernel_rfl))⟩, f15 := Try.func112.trans (congrArg some (by kernel_rfl)), f20 := ⟨"slices.insertionSortCmpFunc[harrier/api.Span]", by decide, Try.func142.trans (congrArg some (by kernel_rfl))⟩, f21 := ⟨"slices.heapSortCmpFunc[harrier/api.Span]", by decide, Try.func143.trans (congrArg some (by kernel_rfl))⟩, f22 := ⟨"slices.breakPatternsCmpFunc[harrier/api.Span]", by decide, Try.func144.trans (congrArg some (by kernel_rfl))⟩, f23 := ⟨"slices.choosePivotCmpFunc[harrier/api.Span]", by decide, Try.func145.trans (congrArg some (by kernel_rfl))⟩, f24 := ⟨"slices.reverseRangeCmpFunc[harrier/api.Span]", by decide, Try.func146.trans (congrArg some (by kernel_rfl))⟩, f25 := ⟨"slices.partialInsertionSortCmpFunc[harrier/api.Span]", by decide, Try.func147.trans (congrArg some (by kernel_rfl))⟩, f26 := ⟨"slices.partitionEqualCmpFunc[harrier/api.Span]", by decide, Try.func148.trans (congrArg some (by kernel_rfl))⟩, f27 := ⟨"slices.partitionCmpFunc[harrier/api.Span]", by decide, Try.func149.trans (congrArg some (by kernel_rfl))⟩, f28 := Try.func135.trans (congrArg some (by kernel_rfl)), f29 := Try.func136.trans (congrArg some (by kernel_rfl)), f46 := ⟨"slices.siftDownCmpFunc[harrier/api.Span]", by decide, Try.func174.trans (congrArg some (by kernel_rfl))⟩, f47 := Try.func168.trans (congrArg some (by kernel_rfl)), f48 := Try.func169.trans (congrArg some (by kernel_rfl)), f49 := ⟨"slices.medianAdjacentCmpFunc[harrier/api.Span]", by decide, Try.func175.trans (congrArg some (by kernel_rfl))⟩, f50 := ⟨"slices.medianCmpFunc[harrier/api.Span]", by decide, Try.func176.trans (congrArg some (by kernel_rfl))⟩, f57 := ⟨"slices.order2CmpFunc[harrier/api.Span]", by decide, Try.func186.trans (congrArg some (by kernel_rfl))⟩, t0 := Try.underlying0, a0 := Try.isAgg0, z0 := Try.sizeOf0, v0 := Try.zeroValue0, t3 := Try.underlying3, a3 := Try.isAgg3, z3 := Try.sizeOf3, v3 := Try.zeroValue3, t4 := Try.underlying4, a4 := Try.isAgg4, z4 := Try.sizeOf4, v4 := Try.zeroValue4, t5 := Try.underlying5, a5 := Try.isAgg5, z5 := Try.sizeOf5, v5 := Try.zeroValue5, t9 := Try.underlying9, a9 := Try.isAgg9, z9 := Try.sizeOf9, v9 := Try.zeroValue9, t22 := Try.underlying46, a22 := Try.isAgg46, z22 := Try.sizeOf46, v22 := Try.zeroValue46, t25 := Try.underlying97, a25 := Try.isAgg97, z25 := Try.sizeOf97, v25 := Try.zeroValue97, t39 := Try.underlying125, a39 := Try.isAgg125, z39 := Try.sizeOf125, v39 := Try.zeroValue125, t45 := Try.underlying138, a45 := Try.isAgg138, z45 := Try.sizeOf138, v45 := Try.zeroValue138, t46 := Try.underlying139, a46 := Try.isAgg139, z46 := Try.sizeOf139, v46 := Try.zeroValue139, t50 := Try.underlying110, a50 := Try.isAgg110, z50 := Try.sizeOf110, v50 := Try.zeroValue110, t53 := Try.underlying146, a53 := Try.isAgg146, z53 := Try.sizeOf146, v53 := Try.zeroValue146, t55 := Try.underlying148, a55 := Try.isAgg148, z55 := Try.sizeOf148, v55 := Try.zeroValue148, t66 := Try.underlying168, a66 := Try.isAgg168, z66 := Try.sizeOf168, v66 := Try.zeroValue168, t70 := Try.underlying103, a70 := Try.isAgg103, z70 := Try.sizeOf103, v70 := Try.zeroValue103, t76 := Try.underlying188, a76 := Try.isAgg188, z76 := Try.sizeOf188, v76 := Try.zeroValue188, t77 := Try.underlying189, a77 := Try.isAgg189, z77 := Try.sizeOf189, v77 := Try.zeroValue189 }

def lay122_ren : Go.Shelf.Ren := ⟨fun | 0 => 0 | 1 => 1 | 2 => 2 | 111 => 21 | 122 => 78 | 125 => 112 | 128 => 135 | 129 => 136 | 134 => 184 | 189 => 79 | 190 => 68 | 193 => 52 | 194 => 69 | 215 => 119 | 216 => 156 | 257 => 120 | 258 => 111 | 264 => 161 | 294 => 150 | 295 => 151 | 296 => 152 | 297 => 153 | 298 => 154 | 299 => 155 | 300 => 157 | 301 => 158 | 302 => 126 | 303 => 127 | 304 => 128 | 305 => 129 | 306 => 130 | 307 => 131 | 308 => 132 | 309 => 133 | 310 => 134 | 328 => 177 | 329 => 168 | 330 => 169 | 331 => 178 | 332 => 179 | 333 => 167 | 334 => 170 | 335 => 171 | 336 => 172 | 343 => 187 | 344 => 185 | 347 => 194 | 348 => 195 | 349 => 196 | 350 => 197 | 351 => 198 | 352 => 199 | 353 => 200 | 354 => 201 | 355 => 202 | 356 => 203 | 357 => 204 | 358 => 205 | 359 => 206 | 360 => 207 | 361 => 208 | 363 => 209 | 366 => 210 | n => n, fun | 0 => 0 | 1 => 1 | 2 => 2 | 3 => 3 | 4 => 4 | 5 => 5 | 6 => 6 | 7 => 7 | 8 => 8 | 9 => 9 | 10 => 10 | 11 => 11 | 12 => 12 | 13 => 13 | 14 => 14 | 15 => 15 | 16 => 16 | 17 => 17 | 18 => 18 | 19 => 19 | 20 => 20 | 21 => 21 | 22 => 142 | 28 => 37 | 31 => 24 | 34 => 40 | 35 => 98 | 36 => 99 | 41 => 133 | 43 => 96 | 46 => 125 | 47 => 124 | 51 => 146 | 52 => 145 | 53 => 148 | 54 => 147 | 74 => 186 | 75 => 187 | 80 => 195 | 81 => 201 | 100 => 87 | 101 => 67 | 102 => 88 | 104 => 109 | 111 => 130 | 112 => 79 | 114 => 167 | 127 => 205 | 131 => 110 | 132 => 81 | 134 => 131 | 135 => 123 | 143 => 194 | 144 => 210 | 145 => 211 | 148 => 162 | 149 => 163 | 164 => 212 | 181 => 157 | 182 => 138 | 183 => 139 | 184 => 158 | 185 => 159 | 186 => 160 | 187 => 161 | 188 => 137 | 189 => 140 | 190 => 141 | 191 => 143 | 192 => 144 | 218 => 168 | 219 => 169 | 220 => 170 | 221 => 176 | 222 => 103 | 223 => 177 | 224 => 171 | 225 => 172 | 228 => 188 | 229 => 189 | 230 => 192 | 231 => 190 | 238 => 196 | 239 => 197 | 240 => 198 | 241 => 199 | 242 => 200 | 243 => 202 | 244 => 203 | 245 => 204 | 246 => 206 | 247 => 207 | 248 => 208 | 249 => 209 | n => n, fun n => n⟩
theorem lay122 : Go.Proofs.Lays.n122 Try.prog lay122_ren := { mixed := by kernel_rfl, f122 := Try.func78.trans (congrArg some (by kernel_rfl)), f215 := Try.func119.trans (congrArg some (by kernel_rfl)), t3 := Try.underlying3, a3 := Try.isAgg3, z3 := Try.sizeOf3, v3 := Try.zeroValue3, t4 := Try.underlying4, a4 := Try.isAgg4, z4 := Try.sizeOf4, v4 := Try.zeroValue4 }

def cmpS (x y : SpanR) : Int := Go.Lib.compareInt x.from_ y.from_
theorem ltS (x y : SpanR) : ltOf cmpS x y = decide (x.from_ < y.from_) := by
  unfold ltOf cmpS Go.Lib.compareInt
  by_cases h : x.from_ < y.from_
  · rw [if_pos h]; simp [h]
  · rw [if_neg h]
    by_cases h2 : y.from_ < x.from_
    · simp [h, h2]
    · simp [h, h2]
theorem swoS : Go.Sort.SWO (ltOf cmpS) := ⟨fun x => by rw [ltS]; simp, fun x y z h1 h2 => by rw [ltS] at *; simp at *; omega, fun x y z h1 h2 => by rw [ltS] at *; simp at *; omega⟩
theorem flat_span (xs : List SpanR) : Go.Sort.flatK encSpan.cells 2 xs.toArray = (encSpan.enc xs).toArray := by
  have hl : (encSpan.enc xs).length = xs.length * 2 := encSpan.enc_len xs
  apply Array.ext
  · rw [Go.Sort.size_flatK, List.size_toArray, List.size_toArray, hl]
  · intro t h1 h2
    have ht : t < xs.length * 2 := by rw [Go.Sort.size_flatK, List.size_toArray] at h1; exact h1
    have hi : t / 2 < xs.length := by omega
    have e1 := Go.Sort.get_flatK encSpan.cells 2 xs.toArray t (by rw [List.size_toArray]; exact ht)
    rw [getElem!_pos _ t h1] at e1
    rw [e1, getElem!_pos _ (t / 2) (by rw [List.size_toArray]; exact hi)]
    have hx := List.getElem?_eq_getElem hi
    have hc : (encSpan.cells xs[t / 2])[t % 2]? = some (encSpan.cells xs[t / 2])[t % 2]! := by
      rcases (show t % 2 = 0 ∨ t % 2 = 1 by omega) with h | h <;> rw [h] <;> rfl
    have hg := encSpan.enc_get xs (t / 2) _ hx (t % 2) _ hc
    rw [show t / 2 * encSpan.size + t % 2 = t by show t / 2 * 2 + t % 2 = t; omega] at hg
    obtain ⟨h3, h4⟩ := List.getElem?_eq_some_iff.1 hg
    simp only [List.getElem_toArray] at h4 ⊢
    exact h4.symm
theorem span_cmp (x y : SpanR) (W : World) : Calls Try.prog 77 #[.agg #[.int .i64 x.from_, .int .i64 x.to], .agg #[.int .i64 y.from_, .int .i64 y.to]] W fun e w' => e = .returned (.int .i64 (cmpS x y)) ∧ ∃ q os', w' = Go.Sort.grow (W.drewN q) os' := by
  have hcon := fun W' => Any.cmp_Compare_int lay122 x.from_ y.from_ W'
  change ∀ W', Calls Try.prog 78 _ _ _ at hcon
  unfold cmpS
  generalize Go.Lib.compareInt x.from_ y.from_ = r at hcon ⊢
  go_enter Try.func77, Try.ntmps77
  go_wp2_with (go_at_call 78; refine (hcon _).mono ?_; rintro e w' ⟨rfl, rfl⟩)
  go_ret
  exact ⟨rfl, 0, _, by rw [Go.Sort.alloc_eq_grow, Go.Sort.alloc_eq_grow, Go.Sort.grow_grow]; rfl⟩
theorem span_len {B n c : Nat} {w : World} {a : Option Addr} {xs : List SpanR} {e : TypeId} (h : w.ownsRow B e 2 (.slice a n c) n (encSpan.enc xs)) : xs.length = n := by
  have h1 := h.1
  have h2 : (encSpan.enc xs).length = xs.length * 2 := encSpan.enc_len xs
  omega
theorem sort_spans (B id : Nat) (a : Option Addr) (n c : Nat) (xs : List SpanR) (T : TypeId) (H : HL) (w : World) (hB : B ≤ w.heap.size) (hs : Sat B w H) (hr : Hx.look H id = some (.row a n c (encSpan.enc xs) T 2)) (hsz : n < 4611686018427387904) :
    Calls Try.prog 76 #[.slice a n c, .func (.func 77) #[] #[]] w fun e w' => ∃ ys : List SpanR, e = .returned (.tuple #[]) ∧ ys.Perm xs ∧ (∀ (i j : Nat) (s u : SpanR), i < j → ys[i]? = some s → ys[j]? = some u → s.from_ ≤ u.from_) ∧ Below B w w' ∧ Sat B w' ((id, .row a n c (encSpan.enc ys) T 2) :: H) ∧ B ≤ w'.heap.size ∧ Kd (fun _ => False) w w' := by
  have hok := hs.ok id _ hr
  have hlen := span_len hok
  by_cases hn : n = 0
  · subst hn
    obtain rfl : xs = [] := List.eq_nil_of_length_eq_zero hlen
    have h := AnyF.slices_SortFunc_none (P := Try.prog) (ρ := layF0_ren) layF0 a c (.func (.func 77) #[] #[]) w
    change Calls Try.prog 76 _ _ _ at h
    refine h.mono ?_
    rintro e w' ⟨rfl, rfl⟩
    exact ⟨[], rfl, List.Perm.refl _, fun i j s u _ h => by simp at h, Below.refl _ _, hs.again hr, hB, Kd.refl _ _⟩
  obtain ⟨g, rfl⟩ := row_some hok (by omega)
  have hlt := (Ent.own_lt hok (b := g) rfl).2
  subst hlen
  have h2 := row_holds hok
  rw [← flat_span] at h2
  have hcmp : CmpLays Try.prog 77 #[] encSpan.cells 2 cmpS g 0 xs.toArray.size w := fun m os dk _ x y => by
    rw [Array.append_empty]
    exact span_cmp x y _
  have h := AnyQ.slices_SortFunc layF0 2 Try.isAgg54 Try.sizeOf54 encSpan.cells (fun _ => rfl) (fun x v hv => by simp [encSpan] at hv; rcases hv with rfl | rfl <;> rfl) cmpS swoS 77 #[] g 0 c xs.toArray w (enters_of Try.func77 (by kernel_rfl) rfl) hcmp h2 hlt (by simpa using hsz)
  change Calls Try.prog 76 _ _ _ at h
  refine h.mono ?_
  rintro e w' ⟨rfl, d', nd, os, hp, hso, rfl⟩
  obtain ⟨hsz1, _, hperm⟩ := hp
  have hds : d'.size = xs.length := by rw [hsz1, List.size_toArray]
  have hpp : d'.toList.Perm xs := by
    have e1 : (d'.extract 0 xs.toArray.size).toList = d'.toList := by
      rw [List.size_toArray, ← hds, Array.extract_size]
    have e2 : (xs.toArray.extract 0 xs.toArray.size).toList = xs := by rw [Array.extract_size]
    rw [e1, e2] at hperm
    exact hperm
  have hw : sortWorldK encSpan.cells 2 w g 0 nd d' os = putW w g nd (encSpan.enc d'.toList) os := by
    unfold sortWorldK Go.Sort.putRowK putW
    rw [← flat_span]
  rw [hw]
  have hres := hs.sorted (nd := nd) (os := os) (vs' := encSpan.enc d'.toList) hB hr (by
    have q1 : (encSpan.enc d'.toList).length = d'.toList.length * 2 := encSpan.enc_len _
    have q2 : (encSpan.enc xs).length = xs.length * 2 := encSpan.enc_len _
    rw [q1, q2, hpp.length_eq])
  refine ⟨d'.toList, rfl, hpp, fun i j s u hij hi hj => ?_, hres⟩
  obtain ⟨hi1, hi2⟩ := List.getElem?_eq_some_iff.1 hi
  obtain ⟨hj1, hj2⟩ := List.getElem?_eq_some_iff.1 hj
  rw [Array.length_toList] at hi1 hj1
  have := hso i j (Nat.zero_le _) hij (by rw [List.size_toArray]; omega)
  rw [getElem!_pos d' i hi1, getElem!_pos d' j hj1, ltS] at this
  simp only [decide_eq_false_iff_not] at this
  rw [Array.getElem_toList] at hi2 hj2
  rw [hi2, hj2] at this
  omega
end Go.Proofs.Ytogcclagmobkiaa
