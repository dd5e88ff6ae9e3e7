/-
  slices.Sort and slices.Compact of names: the library's contracts, laid at this program.
-/
import Derived.Shelf.Slices.CompactS
import Derived.Shelf.Slices.In.SortNone
import Derived.Test.YtogcclagmobkiaaSort
import Derived.Test.YtogcclagmobkiaaJoinM
import Derived.Test.YtogcclagmobkiaaHg
import Derived.Test.YtogcclagmobkiaaHa
namespace Go.Proofs.Ytogcclagmobkiaa
open Go Go.RowKit Hx
set_option linter.unusedVariables false
set_option linter.unusedSimpArgs false
set_option maxRecDepth 8000
theorem sortS_nil : sortS [] = [] := by simp [sortS]
theorem map_of_bytes (ls : List (List UInt8)) : (ls.map ofB).map bytesL = ls := by
  have h3 : (bytesL ∘ ofB) = _root_.id := by funext l; simp [bytesL, ofB]
  rw [List.map_map, h3, List.map_id]
theorem str_len {B n c : Nat} {w : World} {a : Option Addr} {xs : List ByteArray} {e : TypeId} (h : w.ownsRow B e 1 (.slice a n c) n (encStr.enc xs)) : xs.length = n := by
  have h1 := h.1
  rw [encStr_map, List.length_map, List.length_map] at h1
  omega
theorem sort_names (B id : Nat) (a : Option Addr) (n c : Nat) (xs : List ByteArray) (T : TypeId) (H : HL) (w : World) (hB : B ≤ w.heap.size) (hs : Sat B w H) (hr : Hx.look H id = some (.row a n c (encStr.enc xs) T 1)) (hsz : n < 4611686018427387904) :
    Calls Try.prog 68 #[.slice a n c] w fun e w' => e = .returned (.tuple #[]) ∧ Below B w w' ∧ Sat B w' ((id, .row a n c (encStr.enc (sortS xs)) T 1) :: H) ∧ B ≤ w'.heap.size ∧ Kd (fun _ => False) w w' := by
  by_cases hn : n = 0
  · subst hn
    obtain rfl : xs = [] := List.eq_nil_of_length_eq_zero (str_len (hs.ok id _ hr))
    have h := Any.slices_Sort_string_none lay190 a c w
    change Calls Try.prog 68 _ _ _ at h
    refine h.mono ?_
    rintro e w' ⟨rfl, rfl⟩
    exact ⟨rfl, Below.refl _ _, by rw [sortS_nil]; exact hs.again hr, hB, Kd.refl _ _⟩
  · exact sort_strings B id a n c xs T H w hB hs hr (by omega) hsz
def compS (xs : List ByteArray) : List ByteArray := (Go.Lib.compact (xs.map bytesL)).map ofB
theorem compS_nil : compS [] = [] := by simp [compS, Go.Lib.compact, Go.Lib.compactUpTo]
theorem compS_sort (xs : List ByteArray) : compS (sortS xs) = ordBA xs := by
  unfold compS sortS ordBA
  have h := map_of_bytes ((xs.map bytesL).mergeSort fun x y => decide (x ≤ y))
  show (Go.Lib.compact ((((xs.map bytesL).mergeSort fun x y => decide (x ≤ y)).map ofB).map bytesL)).map ofB = _
  rw [h]
  rfl
theorem encStr_bytes (ls : List (List UInt8)) : encStr.enc (ls.map ofB) = ls.map Go.Proofs.encStr := by
  rw [encStr_map, map_of_bytes]
def layC194_ren : Go.Shelf.Ren := ⟨fun | 0 => 0 | 1 => 1 | 2 => 2 | 111 => 21 | 122 => 78 | 125 => 112 | 128 => 135 | 129 => 136 | 134 => 184 | 189 => 79 | 190 => 68 | 193 => 52 | 194 => 69 | 215 => 119 | 216 => 156 | 257 => 120 | 258 => 111 | 264 => 161 | 294 => 150 | 295 => 151 | 296 => 152 | 297 => 153 | 298 => 154 | 299 => 155 | 300 => 157 | 301 => 158 | 302 => 126 | 303 => 127 | 304 => 128 | 305 => 129 | 306 => 130 | 307 => 131 | 308 => 132 | 309 => 133 | 310 => 134 | 328 => 177 | 329 => 168 | 330 => 169 | 331 => 178 | 332 => 179 | 333 => 167 | 334 => 170 | 335 => 171 | 336 => 172 | 343 => 187 | 344 => 185 | 347 => 194 | 348 => 195 | 349 => 196 | 350 => 197 | 351 => 198 | 352 => 199 | 353 => 200 | 354 => 201 | 355 => 202 | 356 => 203 | 357 => 204 | 358 => 205 | 359 => 206 | 360 => 207 | 361 => 208 | 363 => 209 | 366 => 210 | n => n, fun | 0 => 0 | 1 => 1 | 2 => 2 | 3 => 3 | 4 => 4 | 5 => 5 | 6 => 6 | 7 => 7 | 8 => 8 | 9 => 9 | 10 => 10 | 11 => 11 | 12 => 12 | 13 => 13 | 14 => 14 | 15 => 15 | 16 => 16 | 17 => 17 | 18 => 18 | 19 => 19 | 20 => 20 | 21 => 21 | 22 => 142 | 28 => 37 | 31 => 24 | 34 => 40 | 35 => 98 | 36 => 99 | 41 => 133 | 43 => 96 | 46 => 125 | 47 => 124 | 51 => 146 | 52 => 145 | 53 => 148 | 54 => 147 | 74 => 186 | 75 => 187 | 80 => 195 | 81 => 201 | 100 => 87 | 101 => 67 | 102 => 88 | 104 => 109 | 111 => 130 | 112 => 79 | 114 => 167 | 127 => 205 | 131 => 110 | 132 => 81 | 134 => 131 | 135 => 123 | 143 => 194 | 144 => 210 | 145 => 211 | 148 => 162 | 149 => 163 | 164 => 212 | 181 => 157 | 182 => 138 | 183 => 139 | 184 => 158 | 185 => 159 | 186 => 160 | 187 => 161 | 188 => 137 | 189 => 140 | 190 => 141 | 191 => 143 | 192 => 144 | 218 => 168 | 219 => 169 | 220 => 170 | 221 => 176 | 222 => 103 | 223 => 177 | 224 => 171 | 225 => 172 | 228 => 188 | 229 => 189 | 230 => 192 | 231 => 190 | 238 => 196 | 239 => 197 | 240 => 198 | 241 => 199 | 242 => 200 | 243 => 202 | 244 => 203 | 245 => 204 | 246 => 206 | 247 => 207 | 248 => 208 | 249 => 209 | n => n, fun n => n⟩
theorem layC194 : Go.Proofs.Lays.n194 Try.prog layC194_ren := { mixed := by kernel_rfl, f194 := Try.func69.trans (congrArg some (by kernel_rfl)), t0 := Try.underlying0, a0 := Try.isAgg0, z0 := Try.sizeOf0, v0 := Try.zeroValue0, t3 := Try.underlying3, a3 := Try.isAgg3, z3 := Try.sizeOf3, v3 := Try.zeroValue3, t4 := Try.underlying4, a4 := Try.isAgg4, z4 := Try.sizeOf4, v4 := Try.zeroValue4, t9 := Try.underlying9, a9 := Try.isAgg9, z9 := Try.sizeOf9, v9 := Try.zeroValue9, t31 := Try.underlying24, a31 := Try.isAgg24, z31 := Try.sizeOf24, v31 := Try.zeroValue24 }

theorem compact_names (B id : Nat) (a : Option Addr) (n c : Nat) (xs : List ByteArray) (T : TypeId) (H : HL) (w : World) (hB : B ≤ w.heap.size) (hs : Sat B w H) (hr : Hx.look H id = some (.row a n c (encStr.enc xs) T 1)) (hsz : n ≤ 9223372036854775807) :
    Calls Try.prog 69 #[.slice a n c] w fun e w' => e = .returned (.slice a (compS xs).length c) ∧ Below B w w' ∧ Sat B w' ((id, .row a (compS xs).length c (encStr.enc (compS xs)) T 1) :: H) ∧ B ≤ w'.heap.size ∧ Kd (fun _ => False) w w' := by
  have hok := hs.ok id _ hr
  by_cases hn : n = 0
  · subst hn
    obtain rfl : xs = [] := List.eq_nil_of_length_eq_zero (str_len hok)
    have h := Any.slices_Compact_string_empty layC194 a c w
    change Calls Try.prog 69 _ _ _ at h
    refine h.mono ?_
    rintro e w' ⟨rfl, rfl⟩
    exact ⟨by rw [compS_nil]; rfl, Below.refl _ _, by rw [compS_nil]; exact hs.again hr, hB, Kd.refl _ _⟩
  have hcap : n ≤ c := by
    rcases hok.2 with ⟨h1, h2⟩ | ⟨g, cap', cur, hv, hb, hg, h3, h4, h5⟩
    · omega
    · cases hv; exact h3
  obtain ⟨g, rfl⟩ := row_some hok (by omega)
  have hlen := str_len hok
  subst hlen
  have h2 := row_holds hok
  rw [encStr_map, ← List.map_toArray] at h2
  have h := Any.slices_Compact_string layC194 g 0 c (xs.map bytesL) w (holds_id h2) (by rw [List.length_map]; exact hsz) (by rw [List.length_map]; exact hcap)
  rw [List.length_map] at h
  change Calls Try.prog 69 _ _ _ at h
  refine h.mono ?_
  rintro e w' ⟨rfl, q, rfl⟩
  have hcl := compact_len (xs.map bytesL)
  rw [List.length_map] at hcl
  have hw : Go.Sort.putRow Go.Proofs.encStr (Go.Sort.ahead w q) g 0 (Go.Lib.compact (xs.map bytesL) ++ List.replicate (xs.length - (Go.Lib.compact (xs.map bytesL)).length) []).toArray = putW w g q (encStr.enc ((Go.Lib.compact (xs.map bytesL) ++ List.replicate (xs.length - (Go.Lib.compact (xs.map bytesL)).length) []).map ofB)) #[] := by
    unfold putW
    rw [Go.Sort.grow_empty, putRow_id, encStr_bytes, ← List.map_toArray]
  rw [hw]
  have h3 := hs.sorted (nd := q) (os := #[]) (vs' := encStr.enc ((Go.Lib.compact (xs.map bytesL) ++ List.replicate (xs.length - (Go.Lib.compact (xs.map bytesL)).length) []).map ofB)) hB hr (by rw [encStr_bytes, encStr_map, List.length_map, List.length_map, List.length_map, List.length_append, List.length_replicate]; omega)
  have hcs : (compS xs).length = (Go.Lib.compact (xs.map bytesL)).length := List.length_map _
  refine ⟨by rw [hcs], h3.1, ?_, h3.2.2⟩
  have h4 := (h3.2.1.cut (id := id) (look_cons_eq _ _ _) (h := (compS xs).length) (by rw [hcs]; exact hcl)).shadow
  have h5 : (encStr.enc ((Go.Lib.compact (xs.map bytesL) ++ List.replicate (xs.length - (Go.Lib.compact (xs.map bytesL)).length) []).map ofB)).take ((compS xs).length * 1) = encStr.enc (compS xs) := by
    rw [List.map_append, Enc.enc_append, Nat.mul_one]
    exact List.take_left' (by rw [encStr_map, List.length_map, List.length_map]; rfl)
  rw [h5] at h4
  exact h4
end Go.Proofs.Ytogcclagmobkiaa
