/-
  Crossings in the order of their parts: plain part.
-/
import Derived.Test.YtbbhcffkleplnaaCrossM
import Derived.Test.YtbbhcffkleplnaaStabM
namespace Go.Proofs.Ytbbhcffkleplnaa
set_option linter.unusedVariables false
set_option linter.unusedSimpArgs false
def gPart (gs : List GateR) (p q : SmpR) (i : Int) : PartR := match gs[i.toNat]? with | some g => partOf g p q | none => ⟨0, 0⟩
def posI (n : Int) : Int := if n ≤ 0 then 1 else n
theorem posI_pos (n : Int) : 0 < posI n := by unfold posI; split <;> omega
theorem posI_eq {n : Int} (h : 0 < n) : posI n = n := by unfold posI; rw [if_neg (by omega)]
def ltG (gs : List GateR) (p q : SmpR) (i k : Int) : Bool := decide ((gPart gs p q i).num * posI (gPart gs p q k).den < (gPart gs p q k).num * posI (gPart gs p q i).den)
theorem frac_lt {a b c d e f : Int} (hb : 0 < b) (hd : 0 < d) (hf : 0 < f) (h1 : a * d < c * b) (h2 : c * f < e * d) : a * f < e * b := by
  have h3 := Int.mul_lt_mul_of_pos_right h1 hf
  have h4 := Int.mul_lt_mul_of_pos_right h2 hb
  rw [Int.mul_right_comm c f b] at h4
  have h5 : a * f * d < e * b * d := by
    rw [Int.mul_right_comm a f d, Int.mul_right_comm e b d]; omega
  exact Int.lt_of_mul_lt_mul_right h5 (Int.le_of_lt hd)
theorem frac_le {a b c d e f : Int} (hb : 0 < b) (hd : 0 < d) (hf : 0 < f) (h1 : a * d ≤ c * b) (h2 : c * f ≤ e * d) : a * f ≤ e * b := by
  have h3 := Int.mul_le_mul_of_nonneg_right h1 (Int.le_of_lt hf)
  have h4 := Int.mul_le_mul_of_nonneg_right h2 (Int.le_of_lt hb)
  rw [Int.mul_right_comm c f b] at h4
  have h5 : a * f * d ≤ e * b * d := by
    rw [Int.mul_right_comm a f d, Int.mul_right_comm e b d]; omega
  exact Int.le_of_mul_le_mul_right h5 hd
theorem ltG_swo (gs : List GateR) (p q : SmpR) : Swo (ltG gs p q) := by
  refine ⟨fun x y h => ?_, fun x y z h1 h2 => ?_, fun x y z h1 h2 => ?_⟩
  · unfold ltG at h ⊢
    rw [decide_eq_true_eq] at h
    rw [decide_eq_false_iff_not]
    omega
  · unfold ltG at h1 h2 ⊢
    rw [decide_eq_true_eq] at h1 h2 ⊢
    exact frac_lt (posI_pos _) (posI_pos _) (posI_pos _) h1 h2
  · unfold ltG at h1 h2 ⊢
    rw [decide_eq_false_iff_not] at h1 h2 ⊢
    have := frac_le (posI_pos (gPart gs p q z).den) (posI_pos (gPart gs p q y).den) (posI_pos (gPart gs p q x).den) (Int.not_lt.1 h2) (Int.not_lt.1 h1)
    omega
section
variable (lt : Int → Int → Bool)
def insR (x : Int) : List Int → List Int
  | [] => [x]
  | y :: l => if lt x y || (!lt y x && decide (x < y)) then x :: y :: l else y :: insR x l
def isR : List Int → List Int
  | [] => []
  | x :: l => insR lt x (isR l)
variable {lt}
theorem mem_insR {x z : Int} : ∀ {l : List Int}, z ∈ insR lt x l ↔ z = x ∨ z ∈ l
  | [] => by simp [insR]
  | y :: l => by
    unfold insR; split
    · simp
    · rw [List.mem_cons, mem_insR (l := l), List.mem_cons]
      constructor
      · rintro (h | h | h)
        · exact .inr (.inl h)
        · exact .inl h
        · exact .inr (.inr h)
      · rintro (h | h | h)
        · exact .inr (.inl h)
        · exact .inl h
        · exact .inr (.inr h)
theorem pair_insR (hw : Swo lt) {x : Int} : ∀ {l : List Int}, l.Pairwise (RR lt) → x ∉ l → (insR lt x l).Pairwise (RR lt)
  | [], _, _ => by simp [insR]
  | y :: l, h, hx => by
    unfold insR
    rw [List.pairwise_cons] at h
    split
    · rename_i hc
      have hr : RR lt x y := by
        rw [Bool.or_eq_true, Bool.and_eq_true, Bool.not_eq_true', decide_eq_true_eq] at hc
        exact hc
      refine List.pairwise_cons.2 ⟨fun z hz => ?_, List.pairwise_cons.2 h⟩
      rcases List.mem_cons.1 hz with rfl | hz
      · exact hr
      · exact hr.trans hw (h.1 z hz)
    · rename_i hc
      have hr : RR lt y x := by
        rw [Bool.or_eq_true, Bool.and_eq_true, Bool.not_eq_true', decide_eq_true_eq] at hc
        unfold RR
        cases h1 : lt y x with
        | true => exact .inl rfl
        | false =>
          cases h2 : lt x y with
          | true => exact absurd (.inl h2) hc
          | false =>
            refine .inr ⟨rfl, ?_⟩
            have : x ≠ y := fun e => hx (by rw [e]; simp)
            have : ¬x < y := fun h3 => hc (.inr ⟨h1, h3⟩)
            omega
      refine List.pairwise_cons.2 ⟨fun z hz => ?_, pair_insR hw h.2 fun hm => hx (List.mem_cons_of_mem _ hm)⟩
      rcases mem_insR.1 hz with rfl | hz
      · exact hr
      · exact h.1 z hz
theorem mem_isR {z : Int} : ∀ {l : List Int}, z ∈ isR lt l ↔ z ∈ l
  | [] => by simp [isR]
  | x :: l => by rw [isR, mem_insR, mem_isR, List.mem_cons]
theorem pair_isR (hw : Swo lt) : ∀ {l : List Int}, l.Nodup → (isR lt l).Pairwise (RR lt)
  | [], _ => by simp [isR]
  | x :: l, h => by
    rw [List.nodup_cons] at h
    rw [isR]
    exact pair_insR hw (pair_isR hw h.2) fun hm => h.1 (mem_isR.1 hm)
theorem len_insR {x : Int} : ∀ {l : List Int}, (insR lt x l).length = l.length + 1
  | [] => rfl
  | y :: l => by
    unfold insR; split
    · simp
    · rw [List.length_cons, len_insR, List.length_cons]
theorem len_isR : ∀ {l : List Int}, (isR lt l).length = l.length
  | [] => rfl
  | x :: l => by rw [isR, len_insR, len_isR, List.length_cons]
end
theorem gIdx_up (gs : List GateR) (p q : SmpR) (k : Nat) : (gIdx gs p q k).Pairwise (· < ·) := by
  unfold gIdx
  rw [List.pairwise_map]
  exact (List.pairwise_lt_range.filter _).imp (fun h => by omega)
theorem up_nodup {l : List Int} (h : l.Pairwise (· < ·)) : l.Nodup := h.imp fun h => by omega
/-- The gates that a step crosses, in the order of their parts. -/
def gOrd (gs : List GateR) (p q : SmpR) (k : Nat) : List Int := isR (ltG gs p q) (gIdx gs p q k)
theorem gOrd_mem {gs : List GateR} {p q : SmpR} {k : Nat} {x : Int} : x ∈ gOrd gs p q k ↔ x ∈ gIdx gs p q k := mem_isR
theorem gOrd_pair (gs : List GateR) (p q : SmpR) (k : Nat) : (gOrd gs p q k).Pairwise (RR (ltG gs p q)) := pair_isR (ltG_swo gs p q) (up_nodup (gIdx_up gs p q k))
theorem gOrd_len (gs : List GateR) (p q : SmpR) (k : Nat) : (gOrd gs p q k).length = (gIdx gs p q k).length := len_isR
theorem gOrd_one {gs : List GateR} {p q : SmpR} {k : Nat} {l : List Int} (h : l.Pairwise (RR (ltG gs p q))) (hm : ∀ x, x ∈ l ↔ x ∈ gIdx gs p q k) : l = gOrd gs p q k :=
  sorted_one (fun x hx => RR.irr (ltG_swo gs p q) hx) (fun x y z => RR.trans (ltG_swo gs p q)) _ _ h (gOrd_pair gs p q k) fun x => (hm x).trans gOrd_mem.symm
theorem tab_mem {n : Nat} {f : Nat → Int} {x : Int} : x ∈ tab n f ↔ ∃ i, i < n ∧ f i = x := by simp [tab]
theorem tab_pair {lt : Int → Int → Bool} {n : Nat} {f : Nat → Int} (h : SoR lt f 0 n) : (tab n f).Pairwise (RR lt) := by
  unfold tab
  rw [List.pairwise_map]
  refine List.pairwise_iff_getElem.2 fun i j hi hj hij => ?_
  simp only [List.getElem_range]
  rw [List.length_range] at hj
  exact h i j (Nat.zero_le _) hij hj
theorem tab_of (l : List Int) : ∃ f : Nat → Int, l = tab l.length f ∧ ∀ (i : Nat) x, l[i]? = some x → f i = x := by
  refine ⟨fun i => l.getD i 0, ?_, fun i x h => by simp [List.getD, h]⟩
  apply List.ext_getElem (by simp)
  intro i h1 h2
  simp [tab, List.getD, h1]
theorem tab_snoc (n : Nat) (f : Nat → Int) (x : Int) : tab n f ++ [x] = tab (n + 1) fun i => if i < n then f i else x := by
  unfold tab
  rw [List.range_succ, List.map_append]
  congr 1
  · refine List.map_congr_left fun i hi => ?_
    rw [if_pos (List.mem_range.1 hi)]
  · simp
theorem SaS.mem {f g : Nat → Int} {n : Nat} (h : SaS f g 0 n) (x : Int) : x ∈ tab n f ↔ x ∈ tab n g := by
  rw [tab_mem, tab_mem]
  constructor
  · rintro ⟨i, hi, rfl⟩; obtain ⟨y, _, h2, h3⟩ := h.1 i (Nat.zero_le _) hi; exact ⟨y, h2, h3.symm⟩
  · rintro ⟨i, hi, rfl⟩; obtain ⟨y, _, h2, h3⟩ := h.2 i (Nat.zero_le _) hi; exact ⟨y, h2, h3.symm⟩
/-- The crossings of the first k steps. -/
def crossS (gs : List GateR) (st : List (SmpR × SmpR)) : Nat → List CrossR
  | 0 => []
  | k + 1 => crossS gs st k ++ (match st[k]? with | some x => (gOrd gs x.1 x.2 gs.length).map (crossOf gs x.1 x.2 k) | none => [])
theorem crossS_succ {gs : List GateR} {st : List (SmpR × SmpR)} {k : Nat} {x : SmpR × SmpR} (h : st[k]? = some x) : crossS gs st (k + 1) = crossS gs st k ++ (gOrd gs x.1 x.2 gs.length).map (crossOf gs x.1 x.2 k) := by rw [crossS, h]
theorem gPart_at {gs : List GateR} {p q : SmpR} {i : Nat} {g : GateR} (h : gs[i]? = some g) : gPart gs p q (i : Int) = partOf g p q := by unfold gPart; rw [Int.toNat_natCast, h]
end Go.Proofs.Ytbbhcffkleplnaa
