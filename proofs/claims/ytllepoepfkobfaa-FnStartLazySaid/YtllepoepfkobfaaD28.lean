/- Contracts: histories, of both. -/
import Derived.Test.YtllepoepfkobfaaD11
import Derived.Test.YtllepoepfkobfaaD26
namespace SG
open Go Go.RowKit Go.Proofs
set_option linter.unusedVariables false
set_option linter.unusedSimpArgs false
set_option maxRecDepth 100000
instance : TyOk Try.prog 102 false 1 [.nilFunc] := ⟨by kernel_rfl, by kernel_rfl⟩
/-- a history of a graph -/
noncomputable def hisB (gs : List Nd) (xss : List (List Int)) (a : Int) : Bool := validG gs && inB (xss.length : Int) 1 10 && inB a 0 ((xss.length : Int) - 1) && xss.all (cellsV gs)
theorem hisB_iff {gs : List Nd} {xss : List (List Int)} {a : Int} : hisB gs xss a = true ↔ validG gs = true ∧ (1 ≤ xss.length ∧ xss.length ≤ 10) ∧ (0 ≤ a ∧ a < xss.length) ∧ ∀ xs ∈ xss, cellsV gs xs = true := by
  unfold hisB
  simp only [Bool.and_eq_true, inB_iff, List.all_eq_true]
  constructor
  · rintro ⟨⟨⟨h1, h2⟩, h3⟩, h4⟩
    exact ⟨h1, ⟨by omega, by omega⟩, ⟨h3.1, by omega⟩, h4⟩
  · rintro ⟨h1, h2, h3, h4⟩
    exact ⟨⟨⟨h1, by omega, by omega⟩, h3.1, by omega⟩, h4⟩
/-- what a function of lists answers, wherever the state leads to L -/
def AnswersL (F : FuncId) (first captured : Array Value) (w0 : World) (L : List Asn) (ls : List LiM) (q : List Int → Bool) : Prop :=
  ∀ L1, Imp w0 L1 L → ∀ i (h : i < ls.length), Tr Try.prog F (first ++ #[.slice ls[i].a ls[i].xs.length ls[i].c] ++ captured) w0 L1 (fun v L' => v = .bool (q ls[i].xs) ∧ L' = L1)
theorem all_not_any {xss : List (List Int)} {p : List Int → Bool} : (!(xss.any fun x => !p x)) = xss.all p := by
  induction xss with
  | nil => rfl
  | cons a l ih => simp only [List.any_cons, List.all_cons, Bool.not_or, Bool.not_not, ih]
end SG
