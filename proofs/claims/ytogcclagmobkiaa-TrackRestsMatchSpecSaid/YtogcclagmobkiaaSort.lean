/-
  slices.Sort of ints and of strings: the library's contracts, laid at this program, for rows of the caller's.
-/
import Derived.Shelf.Sort.Plain
import Derived.Test.YtogcclagmobkiaaHs
import Derived.Test.YtogcclagmobkiaaFacts
import Derived.Test.YtogcclagmobkiaaEncAct
namespace Go.Proofs.Ytogcclagmobkiaa
open Go Go.RowKit Hx
set_option linter.unusedVariables false
set_option linter.unusedSimpArgs false
set_option maxRecDepth 8000
theorem row_some {B n c size : Nat} {w : World} {a : Option Addr} {vs : List Value} {e : TypeId} (h : w.ownsRow B e size (.slice a n c) n vs) (hn : 0 < n) : ∃ g, a = some ⟨g, 0, none⟩ := by
  obtain ⟨_, h | ⟨g, cap', cur, hv, _⟩⟩ := h
  · omega
  · cases hv; exact ⟨g, rfl⟩
def sortI (xs : List Int) : List Int := xs.mergeSort fun x y => decide (x ≤ y)
theorem encI_map (xs : List Int) : encI.enc xs = xs.map (Value.int .i64) := by
  induction xs with
  | nil => rfl
  | cons x r ih => rw [List.map_cons, ← ih]; rfl
def lay189_ren : Go.Shelf.Ren := ⟨fun | 0 => 0 | 1 => 1 | 2 => 2 | 111 => 21 | 122 => 78 | 125 => 112 | 128 => 135 | 129 => 136 | 134 => 184 | 189 => 79 | 190 => 68 | 193 => 52 | 194 => 69 | 215 => 119 | 216 => 156 | 257 => 120 | 258 => 111 | 264 => 161 | 294 => 150 | 295 => 151 | 296 => 152 | 297 => 153 | 298 => 154 | 299 => 155 | 300 => 157 | 301 => 158 | 302 => 126 | 303 => 127 | 304 => 128 | 305 => 129 | 306 => 130 | 307 => 131 | 308 => 132 | 309 => 133 | 310 => 134 | 328 => 177 | 329 => 168 | 330 => 169 | 331 => 178 | 332 => 179 | 333 => 167 | 334 => 170 | 335 => 171 | 336 => 172 | 343 => 187 | 344 => 185 | 347 => 194 | 348 => 195 | 349 => 196 | 350 => 197 | 351 => 198 | 352 => 199 | 353 => 200 | 354 => 201 | 355 => 202 | 356 => 203 | 357 => 204 | 358 => 205 | 359 => 206 | 360 => 207 | 361 => 208 | 363 => 209 | 366 => 210 | n => n, fun | 0 => 0 | 1 => 1 | 2 => 2 | 3 => 3 | 4 => 4 | 5 => 5 | 6 => 6 | 7 => 7 | 8 => 8 | 9 => 9 | 10 => 10 | 11 => 11 | 12 => 12 | 13 => 13 | 14 => 14 | 15 => 15 | 16 => 16 | 17 => 17 | 18 => 18 | 19 => 19 | 20 => 20 | 21 => 21 | 22 => 142 | 28 => 37 | 31 => 24 | 34 => 40 | 35 => 98 | 36 => 99 | 41 => 133 | 43 => 96 | 46 => 125 | 47 => 124 | 51 => 146 | 52 => 145 | 53 => 148 | 54 => 147 | 74 => 186 | 75 => 187 | 80 => 195 | 81 => 201 | 100 => 87 | 101 => 67 | 102 => 88 | 104 => 109 | 111 => 130 | 112 => 79 | 114 => 167 | 127 => 205 | 131 => 110 | 132 => 81 | 134 => 131 | 135 => 123 | 143 => 194 | 144 => 210 | 145 => 211 | 148 => 162 | 149 => 163 | 164 => 212 | 181 => 157 | 182 => 138 | 183 => 139 | 184 => 158 | 185 => 159 | 186 => 160 | 187 => 161 | 188 => 137 | 189 => 140 | 190 => 141 | 191 => 143 | 192 => 144 | 218 => 168 | 219 => 169 | 220 => 170 | 221 => 176 | 222 => 103 | 223 => 177 | 224 => 171 | 225 => 172 | 228 => 188 | 229 => 189 | 230 => 192 | 231 => 190 | 238 => 196 | 239 => 197 | 240 => 198 | 241 => 199 | 242 => 200 | 243 => 202 | 244 => 203 | 245 => 204 | 246 => 206 | 247 => 207 | 248 => 208 | 249 => 209 | n => n, fun n => n⟩
theorem lay189 : Go.Proofs.Lays.n189 Try.prog lay189_ren := { mixed := by kernel_rfl, f125 := Try.func112.trans (congrArg some (by kernel_rfl)), f128 := Try.func135.trans (congrArg some (by kernel_rfl)), f129 := Try.func136.trans (congrArg some (by kernel_rfl)), f189 := Try.func79.trans (congrArg some (by kernel_rfl)), f215 := Try.func119.trans (congrArg some (by kernel_rfl)), f216 := Try.func156.trans (congrArg some (by kernel_rfl)), f257 := Try.func120.trans (congrArg some (by kernel_rfl)), f294 := Try.func150.trans (congrArg some (by kernel_rfl)), f295 := Try.func151.trans (congrArg some (by kernel_rfl)), f296 := Try.func152.trans (congrArg some (by kernel_rfl)), f297 := Try.func153.trans (congrArg some (by kernel_rfl)), f298 := Try.func154.trans (congrArg some (by kernel_rfl)), f299 := Try.func155.trans (congrArg some (by kernel_rfl)), f300 := Try.func157.trans (congrArg some (by kernel_rfl)), f301 := Try.func158.trans (congrArg some (by kernel_rfl)), f328 := Try.func177.trans (congrArg some (by kernel_rfl)), f329 := Try.func168.trans (congrArg some (by kernel_rfl)), f330 := Try.func169.trans (congrArg some (by kernel_rfl)), f331 := Try.func178.trans (congrArg some (by kernel_rfl)), f332 := Try.func179.trans (congrArg some (by kernel_rfl)), f343 := Try.func187.trans (congrArg some (by kernel_rfl)), t0 := Try.underlying0, a0 := Try.isAgg0, z0 := Try.sizeOf0, v0 := Try.zeroValue0, t3 := Try.underlying3, a3 := Try.isAgg3, z3 := Try.sizeOf3, v3 := Try.zeroValue3, t4 := Try.underlying4, a4 := Try.isAgg4, z4 := Try.sizeOf4, v4 := Try.zeroValue4, t5 := Try.underlying5, a5 := Try.isAgg5, z5 := Try.sizeOf5, v5 := Try.zeroValue5, t9 := Try.underlying9, a9 := Try.isAgg9, z9 := Try.sizeOf9, v9 := Try.zeroValue9, t28 := Try.underlying37, a28 := Try.isAgg37, z28 := Try.sizeOf37, v28 := Try.zeroValue37, t46 := Try.underlying125, a46 := Try.isAgg125, z46 := Try.sizeOf125, v46 := Try.zeroValue125, t51 := Try.underlying146, a51 := Try.isAgg146, z51 := Try.sizeOf146, v51 := Try.zeroValue146, t53 := Try.underlying148, a53 := Try.isAgg148, z53 := Try.sizeOf148, v53 := Try.zeroValue148, t131 := Try.underlying110, a131 := Try.isAgg110, z131 := Try.sizeOf110, v131 := Try.zeroValue110, t182 := Try.underlying138, a182 := Try.isAgg138, z182 := Try.sizeOf138, v182 := Try.zeroValue138, t183 := Try.underlying139, a183 := Try.isAgg139, z183 := Try.sizeOf139, v183 := Try.zeroValue139, t218 := Try.underlying168, a218 := Try.isAgg168, z218 := Try.sizeOf168, v218 := Try.zeroValue168, t222 := Try.underlying103, a222 := Try.isAgg103, z222 := Try.sizeOf103, v222 := Try.zeroValue103, t228 := Try.underlying188, a228 := Try.isAgg188, z228 := Try.sizeOf188, v228 := Try.zeroValue188, t229 := Try.underlying189, a229 := Try.isAgg189, z229 := Try.sizeOf189, v229 := Try.zeroValue189 }

theorem sort_ints (B id : Nat) (a : Option Addr) (n c : Nat) (xs : List Int) (T : TypeId) (H : HL) (w : World) (hB : B ≤ w.heap.size) (hs : Sat B w H) (hr : Hx.look H id = some (.row a n c (encI.enc xs) T 1)) (hn : 0 < n) (hsz : n < 4611686018427387904) :
    Calls Try.prog 79 #[.slice a n c] w fun e w' => e = .returned (.tuple #[]) ∧ Below B w w' ∧ Sat B w' ((id, .row a n c (encI.enc (sortI xs)) T 1) :: H) ∧ B ≤ w'.heap.size ∧ Kd (fun _ => False) w w' := by
  have hok := hs.ok id _ hr
  obtain ⟨g, rfl⟩ := row_some hok hn
  have hlt := (Ent.own_lt hok (b := g) rfl).2
  have hlen : xs.length = n := by
    have h1 := hok.1
    rw [encI_map, List.length_map] at h1
    omega
  subst hlen
  have h2 := row_holds hok
  rw [encI_map, ← List.map_toArray] at h2
  have h := Any.slices_Sort_int lay189 g 0 c xs w (holds_id h2) hlt hsz
  change Calls Try.prog 79 _ _ _ at h
  refine h.mono ?_
  rintro e w' ⟨rfl, nd, os, rfl⟩
  have hw : Go.Sort.grow (Go.Sort.putRow (Value.int .i64) (Go.Sort.ahead w nd) g 0 (xs.mergeSort fun x y => decide (x ≤ y)).toArray) os = putW w g nd (encI.enc (sortI xs)) os := by
    unfold putW sortI
    rw [putRow_id, encI_map, ← List.map_toArray]
  rw [hw]
  exact ⟨rfl, hs.sorted hB hr (by rw [encI_map, encI_map, List.length_map, List.length_map, sortI, List.length_mergeSort])⟩
def lay190_ren : Go.Shelf.Ren := ⟨fun | 0 => 0 | 1 => 1 | 2 => 2 | 111 => 21 | 122 => 78 | 125 => 112 | 128 => 135 | 129 => 136 | 134 => 184 | 189 => 79 | 190 => 68 | 193 => 52 | 194 => 69 | 215 => 119 | 216 => 156 | 257 => 120 | 258 => 111 | 264 => 161 | 294 => 150 | 295 => 151 | 296 => 152 | 297 => 153 | 298 => 154 | 299 => 155 | 300 => 157 | 301 => 158 | 302 => 126 | 303 => 127 | 304 => 128 | 305 => 129 | 306 => 130 | 307 => 131 | 308 => 132 | 309 => 133 | 310 => 134 | 328 => 177 | 329 => 168 | 330 => 169 | 331 => 178 | 332 => 179 | 333 => 167 | 334 => 170 | 335 => 171 | 336 => 172 | 343 => 187 | 344 => 185 | 347 => 194 | 348 => 195 | 349 => 196 | 350 => 197 | 351 => 198 | 352 => 199 | 353 => 200 | 354 => 201 | 355 => 202 | 356 => 203 | 357 => 204 | 358 => 205 | 359 => 206 | 360 => 207 | 361 => 208 | 363 => 209 | 366 => 210 | n => n, fun | 0 => 0 | 1 => 1 | 2 => 2 | 3 => 3 | 4 => 4 | 5 => 5 | 6 => 6 | 7 => 7 | 8 => 8 | 9 => 9 | 10 => 10 | 11 => 11 | 12 => 12 | 13 => 13 | 14 => 14 | 15 => 15 | 16 => 16 | 17 => 17 | 18 => 18 | 19 => 19 | 20 => 20 | 21 => 21 | 22 => 142 | 28 => 37 | 31 => 24 | 34 => 40 | 35 => 98 | 36 => 99 | 41 => 133 | 43 => 96 | 46 => 125 | 47 => 124 | 51 => 146 | 52 => 145 | 53 => 148 | 54 => 147 | 74 => 186 | 75 => 187 | 80 => 195 | 81 => 201 | 100 => 87 | 101 => 67 | 102 => 88 | 104 => 109 | 111 => 130 | 112 => 79 | 114 => 167 | 127 => 205 | 131 => 110 | 132 => 81 | 134 => 131 | 135 => 123 | 143 => 194 | 144 => 210 | 145 => 211 | 148 => 162 | 149 => 163 | 164 => 212 | 181 => 157 | 182 => 138 | 183 => 139 | 184 => 158 | 185 => 159 | 186 => 160 | 187 => 161 | 188 => 137 | 189 => 140 | 190 => 141 | 191 => 143 | 192 => 144 | 218 => 168 | 219 => 169 | 220 => 170 | 221 => 176 | 222 => 103 | 223 => 177 | 224 => 171 | 225 => 172 | 228 => 188 | 229 => 189 | 230 => 192 | 231 => 190 | 238 => 196 | 239 => 197 | 240 => 198 | 241 => 199 | 242 => 200 | 243 => 202 | 244 => 203 | 245 => 204 | 246 => 206 | 247 => 207 | 248 => 208 | 249 => 209 | n => n, fun n => n⟩
theorem lay190 : Go.Proofs.Lays.n190 Try.prog lay190_ren := { mixed := by kernel_rfl, f125 := Try.func112.trans (congrArg some (by kernel_rfl)), f128 := Try.func135.trans (congrArg some (by kernel_rfl)), f129 := Try.func136.trans (congrArg some (by kernel_rfl)), f190 := Try.func68.trans (congrArg some (by kernel_rfl)), f258 := Try.func111.trans (congrArg some (by kernel_rfl)), f302 := Try.func126.trans (congrArg some (by kernel_rfl)), f303 := Try.func127.trans (congrArg some (by kernel_rfl)), f304 := Try.func128.trans (congrArg some (by kernel_rfl)), f305 := Try.func129.trans (congrArg some (by kernel_rfl)), f306 := Try.func130.trans (congrArg some (by kernel_rfl)), f307 := Try.func131.trans (congrArg some (by kernel_rfl)), f308 := Try.func132.trans (congrArg some (by kernel_rfl)), f309 := Try.func133.trans (congrArg some (by kernel_rfl)), f310 := Try.func134.trans (congrArg some (by kernel_rfl)), f329 := Try.func168.trans (congrArg some (by kernel_rfl)), f330 := Try.func169.trans (congrArg some (by kernel_rfl)), f333 := Try.func167.trans (congrArg some (by kernel_rfl)), f334 := Try.func170.trans (congrArg some (by kernel_rfl)), f335 := Try.func171.trans (congrArg some (by kernel_rfl)), f336 := Try.func172.trans (congrArg some (by kernel_rfl)), f344 := Try.func185.trans (congrArg some (by kernel_rfl)), t0 := Try.underlying0, a0 := Try.isAgg0, z0 := Try.sizeOf0, v0 := Try.zeroValue0, t3 := Try.underlying3, a3 := Try.isAgg3, z3 := Try.sizeOf3, v3 := Try.zeroValue3, t4 := Try.underlying4, a4 := Try.isAgg4, z4 := Try.sizeOf4, v4 := Try.zeroValue4, t5 := Try.underlying5, a5 := Try.isAgg5, z5 := Try.sizeOf5, v5 := Try.zeroValue5, t9 := Try.underlying9, a9 := Try.isAgg9, z9 := Try.sizeOf9, v9 := Try.zeroValue9, t31 := Try.underlying24, a31 := Try.isAgg24, z31 := Try.sizeOf24, v31 := Try.zeroValue24, t46 := Try.underlying125, a46 := Try.isAgg125, z46 := Try.sizeOf125, v46 := Try.zeroValue125, t51 := Try.underlying146, a51 := Try.isAgg146, z51 := Try.sizeOf146, v51 := Try.zeroValue146, t53 := Try.underlying148, a53 := Try.isAgg148, z53 := Try.sizeOf148, v53 := Try.zeroValue148, t131 := Try.underlying110, a131 := Try.isAgg110, z131 := Try.sizeOf110, v131 := Try.zeroValue110, t182 := Try.underlying138, a182 := Try.isAgg138, z182 := Try.sizeOf138, v182 := Try.zeroValue138, t183 := Try.underlying139, a183 := Try.isAgg139, z183 := Try.sizeOf139, v183 := Try.zeroValue139, t218 := Try.underlying168, a218 := Try.isAgg168, z218 := Try.sizeOf168, v218 := Try.zeroValue168, t222 := Try.underlying103, a222 := Try.isAgg103, z222 := Try.sizeOf103, v222 := Try.zeroValue103, t228 := Try.underlying188, a228 := Try.isAgg188, z228 := Try.sizeOf188, v228 := Try.zeroValue188, t229 := Try.underlying189, a229 := Try.isAgg189, z229 := Try.sizeOf189, v229 := Try.zeroValue189 }

def bytesL (b : ByteArray) : List UInt8 := b.data.toList
def sortS (xs : List ByteArray) : List ByteArray := ((xs.map bytesL).mergeSort fun x y => decide (x ≤ y)).map fun l => ⟨l.toArray⟩
theorem encStr_map (xs : List ByteArray) : encStr.enc xs = (xs.map bytesL).map Go.Proofs.encStr := by
  induction xs with
  | nil => rfl
  | cons x r ih => rw [List.map_cons, List.map_cons, ← ih]; rfl
theorem sort_strings (B id : Nat) (a : Option Addr) (n c : Nat) (xs : List ByteArray) (T : TypeId) (H : HL) (w : World) (hB : B ≤ w.heap.size) (hs : Sat B w H) (hr : Hx.look H id = some (.row a n c (encStr.enc xs) T 1)) (hn : 0 < n) (hsz : n < 4611686018427387904) :
    Calls Try.prog 68 #[.slice a n c] w fun e w' => e = .returned (.tuple #[]) ∧ Below B w w' ∧ Sat B w' ((id, .row a n c (encStr.enc (sortS xs)) T 1) :: H) ∧ B ≤ w'.heap.size ∧ Kd (fun _ => False) w w' := by
  have hok := hs.ok id _ hr
  obtain ⟨g, rfl⟩ := row_some hok hn
  have hlt := (Ent.own_lt hok (b := g) rfl).2
  have hlen : xs.length = n := by
    have h1 := hok.1
    rw [encStr_map, List.length_map, List.length_map] at h1
    omega
  subst hlen
  have h2 := row_holds hok
  rw [encStr_map, ← List.map_toArray] at h2
  have h := Any.slices_Sort_string lay190 g 0 c (xs.map bytesL) w (holds_id h2) hlt (by rw [List.length_map]; exact hsz)
  rw [List.length_map] at h
  change Calls Try.prog 68 _ _ _ at h
  refine h.mono ?_
  rintro e w' ⟨rfl, nd, os, rfl⟩
  have hw : Go.Sort.grow (Go.Sort.putRow Go.Proofs.encStr (Go.Sort.ahead w nd) g 0 ((xs.map bytesL).mergeSort fun x y => decide (x ≤ y)).toArray) os = putW w g nd (encStr.enc (sortS xs)) os := by
    unfold putW sortS
    rw [putRow_id, encStr_map, ← List.map_toArray, List.map_map]
    have h3 : (bytesL ∘ fun l : List UInt8 => (⟨l.toArray⟩ : ByteArray)) = _root_.id := by funext l; simp [bytesL]
    rw [h3, List.map_id]
  rw [hw]
  exact ⟨rfl, hs.sorted hB hr (by rw [encStr_map, encStr_map]; simp [sortS])⟩
end Go.Proofs.Ytogcclagmobkiaa
