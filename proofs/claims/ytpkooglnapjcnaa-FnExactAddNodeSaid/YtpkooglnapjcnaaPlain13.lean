/- Plain data: a graph with one more node. No program here. -/
import Derived.Test.YtpkooglnapjcnaaPlain12
namespace SG
set_option linter.unusedSimpArgs false
set_option linter.unusedVariables false
noncomputable def addB (gs : List Nd) (n : Nd) : Bool := validG gs && validG (gs ++ [n])
noncomputable def addL (gs : List Nd) (n : Nd) : List Nd := if addB gs n = true then gs ++ [n] else []
theorem addB_no1 {gs : List Nd} {n : Nd} (h : validG gs = false) : addB gs n = false := by simp [addB, h]
theorem addB_no2 {gs : List Nd} {n : Nd} (h : validG (gs ++ [n]) = false) : addB gs n = false := by simp [addB, h]
theorem addB_iff {gs : List Nd} {n : Nd} : addB gs n = true ↔ validG gs = true ∧ validG (gs ++ [n]) = true := by rw [addB, Bool.and_eq_true]
theorem addL_no {gs : List Nd} {n : Nd} (h : addB gs n = false) : addL gs n = [] := by simp [addL, h]
theorem addL_yes {gs : List Nd} {n : Nd} (h : addB gs n = true) : addL gs n = gs ++ [n] := by simp [addL, h]
theorem meanUp_append {gs : List Nd} {n : Nd} {xs : List Int} {z : Int} (hx : xs.length = gs.length) : ∀ (k : Nat), k ≤ gs.length → meanUp (gs ++ [n]) (xs ++ [z]) k = meanUp gs xs k := by
  intro k
  induction k with
  | zero => intro _; rfl
  | succ k ih =>
    intro hk
    have e := ih (by omega)
    show meanUp (gs ++ [n]) (xs ++ [z]) k ++ [match (gs ++ [n])[k]? with
      | none => 0
      | some m => if m.kind = 0 then at0 (xs ++ [z]) k else valL m.parts (valF (meanUp (gs ++ [n]) (xs ++ [z]) k))] = meanUp gs xs k ++ [match gs[k]? with
      | none => 0
      | some m => if m.kind = 0 then at0 xs k else valL m.parts (valF (meanUp gs xs k))]
    rw [e, List.getElem?_append_left (by omega), at0_append_left (by omega)]
theorem meanL_append {gs : List Nd} {n : Nd} {xs : List Int} {z : Int} (hx : xs.length = gs.length) : (meanL (gs ++ [n]) (xs ++ [z])).take gs.length = meanL gs xs := by
  unfold meanL
  rw [List.length_append]
  show (meanUp (gs ++ [n]) (xs ++ [z]) (gs.length + 1)).take gs.length = _
  rw [← meanUp_append (n := n) (z := z) hx gs.length (Nat.le_refl _)]
  show (meanUp (gs ++ [n]) (xs ++ [z]) gs.length ++ [_]).take gs.length = _
  exact List.take_left' (by simp)
theorem zero_cells {gs : List Nd} (h : validG gs = true) {n : Nat} (hn : n = gs.length) : cellsV gs (List.replicate n 0) = true := cellsV_iff.2 ⟨validG_iff.1 h, by simp [hn], fun i h1 h2 => by simp⟩
end SG
