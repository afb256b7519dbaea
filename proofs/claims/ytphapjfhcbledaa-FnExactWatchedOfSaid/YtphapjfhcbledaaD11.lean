/- Contracts: copies, searches by a function, MayRead and RenameReads of the program. -/
import Derived.Test.YtphapjfhcbledaaD2
import Derived.Test.YtphapjfhcbledaaOp6
namespace SG
open Go Go.RowKit Go.Proofs
set_option linter.unusedVariables false
set_option linter.unusedSimpArgs false
set_option maxRecDepth 100000
theorem Rd.of_none {w0 : World} {L : List Asn} {α : Type} {E : El α} {A : Option Addr} {c : Nat} {xs : List α} (h : Rd w0 L E A c xs) (hA : A.isNone = true) (w : World) (hs : St w0 w L) : xs = [] := by
  cases xs with
  | nil => rfl
  | cons x xs =>
    obtain ⟨ad, rfl, _⟩ := (h.go w hs).2.2 0 x rfl
    cases hA
/-- what a function of a number answers, wherever the state leads to L -/
def Answers (F : FuncId) (first captured : Array Value) (w0 : World) (L : List Asn) (xs : List Int) (q : Int → Bool) : Prop :=
  ∀ L1, Imp w0 L1 L → ∀ x ∈ xs, Tr Try.prog F (first ++ #[.int .i64 x] ++ captured) w0 L1 (fun v L' => v = .bool (q x) ∧ L' = L1)
theorem Answers.imp {F : FuncId} {first captured : Array Value} {w0 : World} {L L1 : List Asn} {xs : List Int} {q : Int → Bool} (h : Answers F first captured w0 L xs q) (hi : Imp w0 L1 L) : Answers F first captured w0 L1 xs q := fun L2 h2 x hx => h L2 (h2.trans hi) x hx
theorem any_not_in {xs : List Int} {lo hi : Int} : (xs.any fun x => !inB x lo hi) = false ↔ ∀ x ∈ xs, lo ≤ x ∧ x ≤ hi := by
  rw [List.any_eq_false]
  constructor
  · intro h x hx
    have := h x hx
    exact inB_iff.1 (by simpa using this)
  · intro h x hx
    rw [inB_iff.2 (h x hx)]; simp
end SG
