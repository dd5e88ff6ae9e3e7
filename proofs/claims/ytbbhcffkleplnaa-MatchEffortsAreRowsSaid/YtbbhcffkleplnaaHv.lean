/-
  More rules: structs within structs.
-/
import Derived.Test.YtbbhcffkleplnaaHx3
namespace Go.Proofs.Ytbbhcffkleplnaa.Hx
open Go Go.RowKit
set_option linter.unusedVariables false
set_option linter.unusedSimpArgs false
section
variable {P : Program} {B : Nat} {w0 : World} {H : HL} {α : Type} {E : Enc α} {a : Option Addr} {n cap : Nat} {xs : List α}
theorem Rd.loadsFA {w : World} {t : TypeId} {x : α} {i o m : Nat} {us : List Value} (h : Rd E B w0 a n cap xs) (hT : Aggr P t m) (hx : xs[i]? = some x) (hb : Below B w0 w) (hu : ((E.cells x).drop o).take m = us) (hm : us.length = m) :
    Loads P w t ((a.map (·.add (i * E.size))).map (·.add o)) (.agg us.toArray) := by
  obtain ⟨b, off, rfl, h2, h3⟩ := (h.below hb).cell i x hx
  refine ⟨_, rfl, ?_⟩
  simp only [add_none]
  refine run_loadVar_agg (by rw [hm]; exact hT) fun j u hj => ?_
  rw [add_none, Nat.add_assoc, Nat.add_assoc, ← Nat.add_assoc]
  refine h3 (o + j) u ?_
  subst hu
  rw [List.getElem?_take] at hj
  split at hj
  · rw [List.getElem?_drop] at hj; exact hj
  · cases hj
theorem ld_ownFA {w : World} {t e : TypeId} {id size i o m : Nat} {x : α} {us : List Value} (hs : Sat B w H) (hH : look H id = some (.row a n cap (E.enc xs) e size)) (hz : size = E.size) (hT : Aggr P t m) (hx : xs[i]? = some x) (hu : ((E.cells x).drop o).take m = us) (hm : us.length = m) : Loads P w t ((a.map (·.add (i * E.size))).map (·.add o)) (.agg us.toArray) :=
  (hs.rd hH hz).loadsFA hT hx (Below.refl _ _) hu hm
end
section
variable {P : Program} {N : Fr} {B : Nat} {w0 : World} {Q : Exit → Act → World → Prop} {al : AL} {H : HL} {ops : Array Oper} {Ss : List (Nat × HL)} {n : Nat} {listed : Array Bool}
theorem aq_three {i j l : Nat} {o o' o2 : Oper} (hr : Region.ready .any ops listed = [i, j, l]) (ho : ops[i]? = some o) (ho' : ops[j]? = some o') (ho2 : ops[l]? = some o2)
    (h : Next P N B w0 ops Q Ss n listed al H i o) (h' : Next P N B w0 ops Q Ss n listed al H j o') (h2 : Next P N B w0 ops Q Ss n listed al H l o2) : AQ P N B w0 ops Q Ss (n + 1) listed al H := by
  intro hsh a w hst hS
  refine ⟨fun h0 => (by rw [hr] at h0; cases h0), fun k hk => ?_⟩
  have hk' := hk
  rw [hr] at hk'
  rcases (by simpa using hk' : k = i ∨ k = j ∨ k = l) with rfl | rfl | rfl
  · exact aq_op ho (hsh.set hk) h a w hst
  · exact aq_op ho' (hsh.set hk) h' a w hst
  · exact aq_op ho2 (hsh.set hk) h2 a w hst
end
section
variable {P : Program}
/-- The fields from number i on lie one behind the other, and the values fit them; fields that are structs, too. -/
def okFG (P : Program) : Nat → List Field → Nat → List Value → List Value → Bool
  | 0, _, _, _, _ => false
  | _ + 1, [], _, [], [] => true
  | _ + 1, [], _, _, _ => false
  | k + 1, f :: fs, i, us, vs => !(f.name == "_") && Nat.beq f.offset i && (match P.underlying f.type with
    | some (.struct gs) => (match P.info? f.type with
      | some inf => Nat.ble inf.size us.length && Nat.ble inf.size vs.length && !P.stoodInHeld f.type && okFG P k gs.toList 0 (us.take inf.size) (vs.take inf.size) && okFG P k fs (i + inf.size) (us.drop inf.size) (vs.drop inf.size)
      | none => false)
    | some (.int _) => (match us, vs with | .int k1 _ :: us, .int k2 _ :: vs => decide (k1 = k2) && okFG P k fs (i + 1) us vs | _, _ => false)
    | some .bool => (match us, vs with | .bool _ :: us, .bool _ :: vs => okFG P k fs (i + 1) us vs | _, _ => false)
    | some .string => (match us, vs with | .string _ :: us, .string _ :: vs => okFG P k fs (i + 1) us vs | _, _ => false)
    | _ => false)
theorem eqs_app : ∀ (us us' vs vs' : List Value), us.length = vs.length → eqs (us ++ us') (vs ++ vs') = (eqs us vs && eqs us' vs')
  | [], us', [], vs', _ => by simp [eqs]
  | u :: us, us', v :: vs, vs', h => by
    simp only [List.cons_append, eqs]
    rw [eqs_app us us' vs vs' (by simpa using h), Bool.and_assoc]
theorem run_eqFG {w : World} : ∀ (k d : Nat) {xs ys : Array Value} {fs : List Field} {i : Nat} {us vs : List Value}, k ≤ d → okFG P k fs i us vs = true → (∀ j u, us[j]? = some u → xs[i + j]? = some u) → (∀ j v, vs[j]? = some v → ys[i + j]? = some v) →
    (Op.eqFields (d + 1) xs ys fs).run P w = .ok (eqs us vs) w
  | 0, _, _, _, _, _, _, _, _, h, _, _ => by simp [okFG] at h
  | k + 1, d, xs, ys, [], i, us, vs, hd, h, h1, h2 => by
    cases us with
    | nil => cases vs with
      | nil => simp [Op.eqFields, eqs]
      | cons v vs => simp [okFG] at h
    | cons u us => simp [okFG] at h
  | k + 1, d, xs, ys, f :: fs, i, us, vs, hd, h, h1, h2 => by
    unfold okFG at h
    rw [Bool.and_eq_true, Bool.and_eq_true] at h
    obtain ⟨⟨q1, q2⟩, q3⟩ := h
    have hoff : f.offset = i := Nat.eq_of_beq_eq_true q2
    have hname : f.name ≠ "_" := by simpa using q1
    have step : ∀ (u v : Value) (us' vs' : List Value) (m : Nat) (b : Bool), (part f.type xs f.offset).run P w = .ok u w → (part f.type ys f.offset).run P w = .ok v w → (Op.equalIn (d + 1) f.type u v).run P w = .ok b w →
        okFG P k fs (i + m) us' vs' = true → (∀ j u, us'[j]? = some u → xs[i + m + j]? = some u) → (∀ j v, vs'[j]? = some v → ys[i + m + j]? = some v) → eqs us vs = (b && eqs us' vs') → (Op.eqFields (d + 1) xs ys (f :: fs)).run P w = .ok (eqs us vs) w := by
      intro u v us' vs' m b p1 p2 p3 hr r1 r2 he
      have ih := run_eqFG k d (xs := xs) (ys := ys) (w := w) (by omega) hr r1 r2
      unfold Op.eqFields
      rw [if_pos hname]
      simp only [Sem.run_bind, p1, p2, p3, Result.andThen_ok]
      cases hb : b with
      | false => rw [he, hb]; simp
      | true => rw [he, hb]; simp [ih]
    have one : ∀ (dd : TypeDesc) (u v : Value) (us' vs' : List Value), P.underlying f.type = some dd → (match dd with | .int _ | .bool | .string => true | _ => false) = true → us = u :: us' → vs = v :: vs' → (Op.equalIn (d + 1) f.type u v).run P w = .ok (eqV u v) w →
        okFG P k fs (i + 1) us' vs' = true → (Op.eqFields (d + 1) xs ys (f :: fs)).run P w = .ok (eqs us vs) w := by
      intro dd u v us' vs' hdd hp hus hvs p3 hr
      subst hus; subst hvs
      have hagg : (isAgg f.type).run P w = .ok false w := by
        simp only [isAgg, Sem.run_bind, run_underlying hdd, Result.andThen_ok]
        cases dd <;> first | rfl | (simp at hp)
      have hu : xs[i]? = some u := by simpa using h1 0 u rfl
      have hv : ys[i]? = some v := by simpa using h2 0 v rfl
      refine step u v us' vs' 1 (eqV u v) (by rw [hoff]; simp [part, hagg, hu]) (by rw [hoff]; simp [part, hagg, hv]) p3 hr ?_ ?_ rfl
      · intro j u' hj; have := h1 (j + 1) u' (by simpa using hj); rwa [show i + (j + 1) = i + 1 + j from by omega] at this
      · intro j v' hj; have := h2 (j + 1) v' (by simpa using hj); rwa [show i + (j + 1) = i + 1 + j from by omega] at this
    split at q3
    · rename_i gs hgs
      split at q3
      · rename_i inf hinf
        rw [Bool.and_eq_true, Bool.and_eq_true, Bool.and_eq_true, Bool.and_eq_true] at q3
        obtain ⟨⟨⟨⟨a1, a2⟩, a3⟩, a4⟩, a5⟩ := q3
        have l1 : inf.size ≤ us.length := by simpa using a1
        have l2 : inf.size ≤ vs.length := by simpa using a2
        have hagg : (isAgg f.type).run P w = .ok true w := by simp [isAgg, Sem.run_bind, run_underlying hgs, Result.andThen_ok]
        have hsz : (sizeOf f.type).run P w = .ok inf.size w := by simp [sizeOf, typeInfo, hinf]
        have hf : P.fieldsOf f.type = gs := by simp [Program.fieldsOf, hgs]
        have cut : ∀ (zs : Array Value) (ws : List Value), inf.size ≤ ws.length → (∀ j u, ws[j]? = some u → zs[i + j]? = some u) → ∀ j u, (ws.take inf.size)[j]? = some u → (zs.extract i (i + inf.size))[0 + j]? = some u := by
          intro zs ws hl hz j u hj
          rw [List.getElem?_take] at hj
          split at hj
          · rename_i hlt
            have h3 := hz j u hj
            have h4 := (Array.getElem?_eq_some_iff.1 h3).1
            rw [Nat.zero_add, Array.getElem?_extract, if_pos (by omega)]
            exact h3
          · cases hj
        obtain ⟨d', rfl⟩ : ∃ d', d = d' + 1 := ⟨d - 1, by omega⟩
        have inner : (Op.equalIn (d' + 1 + 1) f.type (.agg (xs.extract i (i + inf.size))) (.agg (ys.extract i (i + inf.size)))).run P w = .ok (eqs (us.take inf.size) (vs.take inf.size)) w := by
          rw [run_equalIn_struct (w := w) (d' + 1) f.type _ _ (by rw [hf]; exact hgs) (by simpa using a3), hf]
          exact run_eqFG k d' (by omega) a4 (cut xs us l1 h1) (cut ys vs l2 h2)
        refine step _ _ (us.drop inf.size) (vs.drop inf.size) inf.size _ (by rw [hoff]; simp [part, hagg, hsz]) (by rw [hoff]; simp [part, hagg, hsz]) inner a5 ?_ ?_ ?_
        · intro j u hj; rw [List.getElem?_drop] at hj; have := h1 _ u hj; rwa [← Nat.add_assoc] at this
        · intro j v hj; rw [List.getElem?_drop] at hj; have := h2 _ v hj; rwa [← Nat.add_assoc] at this
        · rw [← eqs_app _ _ _ _ (by simp; omega), List.take_append_drop, List.take_append_drop]
      · cases q3
    · rename_i kk hdd
      split at q3
      · rename_i k1 a us k2 b vs
        rw [Bool.and_eq_true] at q3
        have hk : k1 = k2 := by simpa using q3.1
        subst hk
        exact one _ _ _ _ _ hdd rfl rfl rfl (by rw [run_equalIn_int w d f.type k1 kk a b hdd]; rfl) q3.2
      · cases q3
    · rename_i hdd
      split at q3
      · rename_i a us b vs
        exact one _ _ _ _ _ hdd rfl rfl rfl (run_equalIn_bool' w d f.type a b hdd) q3
      · cases q3
    · rename_i hdd
      split at q3
      · rename_i a us b vs
        exact one _ _ _ _ _ hdd rfl rfl rfl (by simp [Op.equalIn, run_underlying hdd, eqV]) q3
      · cases q3
    · cases q3
def okSG (P : Program) (t : TypeId) (us vs : List Value) : Bool := match P.underlying t with | some (.struct fs) => okFG P 50 fs.toList 0 us vs | _ => false
theorem run_eqsG {t : TypeId} {us vs : List Value} (h : okSG P t us vs = true) (hp : P.stoodInHeld t = false) (w : World) : (Op.equalIn 10000 t (.agg us.toArray) (.agg vs.toArray)).run P w = .ok (eqs us vs) w := by
  unfold okSG at h
  split at h
  · rename_i fs hu
    have hf : P.fieldsOf t = fs := by simp [Program.fieldsOf, hu]
    rw [show (10000 : Nat) = 9999 + 1 from rfl, run_equalIn_struct (w := w) 9999 t _ _ (by rw [hf]; exact hu) hp, hf]
    exact run_eqFG 50 9998 (by omega) h (fun j u hj => by simpa using hj) (fun j u hj => by simpa using hj)
  · simp at h
end
end Go.Proofs.Ytbbhcffkleplnaa.Hx
