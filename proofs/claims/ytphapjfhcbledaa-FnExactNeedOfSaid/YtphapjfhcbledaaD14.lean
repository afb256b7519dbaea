/- Contracts: run, valuesFit, ValueOf of the program. -/
import Derived.Test.YtphapjfhcbledaaD12
namespace SG
open Go Go.RowKit Go.Proofs
set_option linter.unusedVariables false
set_option linter.unusedSimpArgs false
set_option maxRecDepth 100000
def HasRead (ps : List Part) (n : Int) : Prop := ∃ p ∈ ps, p.kind = 1 ∧ p.n = n
/-- what a function that gives nodes their values does, wherever the state leads to L -/
def Gives (F : FuncId) (first captured : Array Value) (w0 : World) (L : List Asn) (ok : Int → Prop) (vals : Int → Int) : Prop :=
  ∀ X, Imp w0 X L → ∀ n, ok n → Tr Try.prog F (first ++ #[.int .i64 n] ++ captured) w0 X (fun v L' => v = .int .i64 (vals n) ∧ L' = X)
theorem FitV.give {ps : List Part} {xs : List Int} (h : FitV ps xs) {n : Int} (hn : HasRead ps n) : 0 ≤ n ∧ n < xs.length := by
  obtain ⟨p, hp, hk, rfl⟩ := hn
  have := h.1.fit p hp hk
  exact ⟨this.1, h.2.2.2 _ (mem_mayL.2 ⟨this, p, hp, hk, rfl⟩)⟩
theorem FitV.vals {ps : List Part} {xs : List Int} (h : FitV ps xs) : ∀ p ∈ ps, p.kind = 1 → InMod (valF xs p.n) := by
  intro p hp hk
  have := h.give ⟨p, hp, hk, rfl⟩
  have h2 := h.2.2.1 (xs[p.n.toNat]'(by omega)) (List.getElem_mem _)
  rw [at0_eq] at h2
  exact h2
end SG
