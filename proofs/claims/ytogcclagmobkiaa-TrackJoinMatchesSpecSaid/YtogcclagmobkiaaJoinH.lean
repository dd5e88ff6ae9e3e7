/-
  Join: what both sides use.
-/
import Derived.Test.YtogcclagmobkiaaJoinM
import Derived.Test.YtogcclagmobkiaaCut
import Derived.Test.YtogcclagmobkiaaOrA
namespace Go.Proofs.Ytogcclagmobkiaa
open Go Go.RowKit Hx
set_option linter.unusedVariables false
set_option linter.unusedSimpArgs false
set_option maxRecDepth 8000
theorem joinR_e {a b : ActD} (h : orR [chkA a, chkA b] ≠ 0) : joinR a b = (noA, orR [chkA a, chkA b]) := by
  rw [orR_two] at h ⊢
  by_cases h1 : chkA a = 0
  · rw [if_neg (fun h => h h1)] at h ⊢
    exact joinR_b (fun h => h h1) h
  · rw [if_pos h1]; exact joinR_a h1
theorem join_mem {us vs : List SmpR} {by_ : Int} {x : SmpR} : ∀ {k : Nat}, x ∈ joinK us vs by_ k → x ∈ us ∨ ∃ y ∈ vs, x = y.fwd by_
  | 0, h => .inl h
  | k + 1, h => by
    cases hs : vs[k]? with
    | none => rw [joinK, hs] at h; exact join_mem h
    | some s =>
      by_cases hc : 0 < k ∨ us.length = 0 ∨ spanL us < s.at_ + by_
      · rw [joinK_yes hs hc, List.mem_append] at h
        rcases h with h | h
        · exact join_mem h
        · simp at h; exact .inr ⟨s, List.mem_of_getElem? hs, h⟩
      · rw [joinK_no hs hc] at h; exact join_mem h
theorem join_names {us vs : List LapR} {by_ : Int} {N : Nat} (ha : ∀ x ∈ us, x.name.size ≤ N) (hb : ∀ x ∈ vs, x.name.size ≤ N) : ∀ x ∈ us ++ fwdL by_ vs, x.name.size ≤ N := by
  intro x hx
  rcases List.mem_append.1 hx with h | h
  · exact ha x h
  · obtain ⟨y, hy, rfl⟩ := List.mem_map.1 h
    exact hb y hy
theorem join_tags {us vs : List ByteArray} {N : Nat} (ha : ∀ x ∈ us, x.size ≤ N) (hb : ∀ x ∈ vs, x.size ≤ N) : ∀ x ∈ tagR us vs, x.size ≤ N := by
  intro x hx
  rcases (mem_tagR _ _ _).1 hx with h | h
  · exact ha x h
  · exact hb x h
theorem join_lo {A D : ActD} (ha : GoodA A) (hd : GoodA D) (k : Nat) : ∀ x ∈ joinK A.ss D.ss (D.start - A.start) k, -9223372036854775808 ≤ x.at_ ∧ x.at_ ≤ 9223372036854775807 := by
  intro x hx
  have h1 := inB_iff.1 ha.head.2.2.1
  have h2 := inB_iff.1 hd.head.2.2.1
  rcases join_mem hx with h | ⟨y, h, rfl⟩
  · have := ha.smp.bd x h; omega
  · have := hd.smp.bd y h
    show -9223372036854775808 ≤ y.at_ + _ ∧ y.at_ + _ ≤ _
    omega
end Go.Proofs.Ytogcclagmobkiaa
