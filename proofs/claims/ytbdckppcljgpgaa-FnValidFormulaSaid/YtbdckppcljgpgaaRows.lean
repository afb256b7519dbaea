/-
  No cell of these rows narrows 'for every input' (looked for: loops, veiled, ifaces, maps, wideKeys, modest, calm, conditions, laid).
  DERIVED. THE GIVEN ROWS OF THIS SEAT. 6 by the template 'for every input the law returns true; each argument reads behind the call as it read before'; 0 by the template 'total and deterministic' (their statements: YtbdckppcljgpgaaTotals.lean).
  GIVEN WITH THE SEED: the statements are not yours to turn. If you find one false, say at which input.
  Laid BY PROGRAM, IN A SANDBOX (cutbox-rows.mjs): the forced cells as the released guide's own fill.sh prints them over the translation cdd485e476fca561… (all of the seat's roots in one cut). By AI agents, Wed Nov 11 2026. No macro, syntax, notation, axiom, sorry.
-/
import Derived.Test.YtbdckppcljgpgaaChecked
import GoSem.Claim
import GoSem.ClaimJoined
import GoSem.ClaimMapViews
import Derived.JoinedTies
import Derived.KernelRfl
namespace Go.Proofs.Ytbdckppcljgpgaa
/- THE CELL 'sum', in the pinned program and in every row, IS THE sha256 OF THE DUMP (.gsa) THAT YtbdckppcljgpgaaProg.lean LOADS. Nothing in Lean hashes anything: it is a label: what it is worth is what the hold of that sum in a sandbox is worth. -/
noncomputable def Try.pinned : Pinned := { name := "ytbdckppcljgpgaa", sum := "cdd485e476fca5614e8f484a4dcb6b8d9e19cb907ca6811f8ea9a4f7c81fe1c9", checked := Try.checked }
namespace Rows
def none {H : Type} : Left H := { results := [], args := [] }

/-- 'laws.FnValidGraph': WHATEVER THE INPUT: true; the input reads as it did. -/
def fnValidGraphSpec : ChangeSpec := { name := "fnValidGraph", fn := fun _ => fun
  | [d] => { results := [.lit (.bool true)], args := [d] }
  | _ => none }
def fnValidGraphRow : OpenClaim := { program := "ytbdckppcljgpgaa", sum := "cdd485e476fca5614e8f484a4dcb6b8d9e19cb907ca6811f8ea9a4f7c81fe1c9", func := "loop.example/signalgraph/laws.FnValidGraph", spec := "fnValidGraph", recurses := true, apart := false }
def FnValidGraphSaid : Prop := fnValidGraphRow.holds Try.pinned (OpenSpec.ofChange fnValidGraphSpec)

/-- ITS FALSE NEIGHBOUR: 'it returns false'. Refute it at one input. -/
def fnValidGraphWrong : ChangeSpec := { name := "fnValidGraph", fn := fun _ => fun
  | [d] => { results := [.lit (.bool false)], args := [d] }
  | _ => none }
def FnValidGraphWrongFalsely : Prop := fnValidGraphRow.holds Try.pinned (OpenSpec.ofChange fnValidGraphWrong)

/-- 'laws.FnMayRead': WHATEVER THE INPUT: true; the input reads as it did. -/
def fnMayReadSpec : ChangeSpec := { name := "fnMayRead", fn := fun _ => fun
  | [d] => { results := [.lit (.bool true)], args := [d] }
  | _ => none }
def fnMayReadRow : OpenClaim := { program := "ytbdckppcljgpgaa", sum := "cdd485e476fca5614e8f484a4dcb6b8d9e19cb907ca6811f8ea9a4f7c81fe1c9", func := "loop.example/signalgraph/laws.FnMayRead", spec := "fnMayRead", unfollowed := true, recurses := true, apart := false }
def FnMayReadSaid : Prop := fnMayReadRow.holds Try.pinned (OpenSpec.ofChange fnMayReadSpec)

/-- ITS FALSE NEIGHBOUR: 'it returns false'. Refute it at one input. -/
def fnMayReadWrong : ChangeSpec := { name := "fnMayRead", fn := fun _ => fun
  | [d] => { results := [.lit (.bool false)], args := [d] }
  | _ => none }
def FnMayReadWrongFalsely : Prop := fnMayReadRow.holds Try.pinned (OpenSpec.ofChange fnMayReadWrong)

/-- 'laws.FnValidFormula': WHATEVER THE INPUT: true; the input reads as it did. -/
def fnValidFormulaSpec : ChangeSpec := { name := "fnValidFormula", fn := fun _ => fun
  | [d] => { results := [.lit (.bool true)], args := [d] }
  | _ => none }
def fnValidFormulaRow : OpenClaim := { program := "ytbdckppcljgpgaa", sum := "cdd485e476fca5614e8f484a4dcb6b8d9e19cb907ca6811f8ea9a4f7c81fe1c9", func := "loop.example/signalgraph/laws.FnValidFormula", spec := "fnValidFormula", unfollowed := true, recurses := true, apart := false }
def FnValidFormulaSaid : Prop := fnValidFormulaRow.holds Try.pinned (OpenSpec.ofChange fnValidFormulaSpec)

/-- ITS FALSE NEIGHBOUR: 'it returns false'. Refute it at one input. -/
def fnValidFormulaWrong : ChangeSpec := { name := "fnValidFormula", fn := fun _ => fun
  | [d] => { results := [.lit (.bool false)], args := [d] }
  | _ => none }
def FnValidFormulaWrongFalsely : Prop := fnValidFormulaRow.holds Try.pinned (OpenSpec.ofChange fnValidFormulaWrong)

/-- 'laws.FnExactValidGraph': WHATEVER THE INPUT: true; the input reads as it did. -/
def fnExactValidGraphSpec : ChangeSpec := { name := "fnExactValidGraph", fn := fun _ => fun
  | [d] => { results := [.lit (.bool true)], args := [d] }
  | _ => none }
def fnExactValidGraphRow : OpenClaim := { program := "ytbdckppcljgpgaa", sum := "cdd485e476fca5614e8f484a4dcb6b8d9e19cb907ca6811f8ea9a4f7c81fe1c9", func := "loop.example/signalgraph/laws.FnExactValidGraph", spec := "fnExactValidGraph", recurses := true, apart := false }
def FnExactValidGraphSaid : Prop := fnExactValidGraphRow.holds Try.pinned (OpenSpec.ofChange fnExactValidGraphSpec)

/-- ITS FALSE NEIGHBOUR: 'it returns false'. Refute it at one input. -/
def fnExactValidGraphWrong : ChangeSpec := { name := "fnExactValidGraph", fn := fun _ => fun
  | [d] => { results := [.lit (.bool false)], args := [d] }
  | _ => none }
def FnExactValidGraphWrongFalsely : Prop := fnExactValidGraphRow.holds Try.pinned (OpenSpec.ofChange fnExactValidGraphWrong)

/-- 'laws.FnValidCells': WHATEVER THE INPUT: true; the input reads as it did. -/
def fnValidCellsSpec : ChangeSpec := { name := "fnValidCells", fn := fun _ => fun
  | [d] => { results := [.lit (.bool true)], args := [d] }
  | _ => none }
def fnValidCellsRow : OpenClaim := { program := "ytbdckppcljgpgaa", sum := "cdd485e476fca5614e8f484a4dcb6b8d9e19cb907ca6811f8ea9a4f7c81fe1c9", func := "loop.example/signalgraph/laws.FnValidCells", spec := "fnValidCells", recurses := true, apart := false }
def FnValidCellsSaid : Prop := fnValidCellsRow.holds Try.pinned (OpenSpec.ofChange fnValidCellsSpec)

/-- ITS FALSE NEIGHBOUR: 'it returns false'. Refute it at one input. -/
def fnValidCellsWrong : ChangeSpec := { name := "fnValidCells", fn := fun _ => fun
  | [d] => { results := [.lit (.bool false)], args := [d] }
  | _ => none }
def FnValidCellsWrongFalsely : Prop := fnValidCellsRow.holds Try.pinned (OpenSpec.ofChange fnValidCellsWrong)

/-- 'laws.FnExactValidCells': WHATEVER THE INPUT: true; the input reads as it did. -/
def fnExactValidCellsSpec : ChangeSpec := { name := "fnExactValidCells", fn := fun _ => fun
  | [d1, d2] => { results := [.lit (.bool true)], args := [d1, d2] }
  | _ => none }
def fnExactValidCellsRow : OpenClaim := { program := "ytbdckppcljgpgaa", sum := "cdd485e476fca5614e8f484a4dcb6b8d9e19cb907ca6811f8ea9a4f7c81fe1c9", func := "loop.example/signalgraph/laws.FnExactValidCells", spec := "fnExactValidCells", recurses := true, apart := false }
def FnExactValidCellsSaid : Prop := fnExactValidCellsRow.holds Try.pinned (OpenSpec.ofChange fnExactValidCellsSpec)

/-- ITS FALSE NEIGHBOUR: 'it returns false'. Refute it at one input. -/
def fnExactValidCellsWrong : ChangeSpec := { name := "fnExactValidCells", fn := fun _ => fun
  | [d1, d2] => { results := [.lit (.bool false)], args := [d1, d2] }
  | _ => none }
def FnExactValidCellsWrongFalsely : Prop := fnExactValidCellsRow.holds Try.pinned (OpenSpec.ofChange fnExactValidCellsWrong)

/- THE SECOND FORM. 'bulk': how many values and letters a reading holds, each counted each time it is reached (what is shared counts as often as it is met; a slice's spare places count too). A statement '..UptoSaid' is the law's where the arguments, and the package variables that the reading takes, are together of bulk at most 1048576: NARROWER than '..Said'. Prove '..Said' where nothing that the law and all that it calls make is longer than what came in: it says more and counts as full. Else prove '..UptoSaid'. A law counts once. -/
mutual
def uptoBulk {H : Type} : DataW H → Nat
  | .lit (.string bytes) => bytes.length + 1
  | .lit _ => 1
  | .nil => 1
  | .ptr d => uptoBulk d + 1
  | .slice elems spare => uptoBulkAll elems + uptoBulkAll spare + 1
  | .agg parts => uptoBulkAll parts + 1
  | .iface _ d => uptoBulk d + 1
  | .map entries => uptoBulkEntries entries + 1
  | .held _ => 1
def uptoBulkAll {H : Type} : List (DataW H) → Nat
  | [] => 0
  | d :: r => uptoBulk d + uptoBulkAll r
def uptoBulkEntries {H : Type} : List (Lit × DataW H) → Nat
  | [] => 0
  | x :: r => uptoBulkEntry x + uptoBulkEntries r
def uptoBulkEntry {H : Type} : Lit × DataW H → Nat
  | (.string bytes, d) => bytes.length + uptoBulk d + 1
  | (_, d) => uptoBulk d + 1
 end
def uptoSmall : (H : Type) → List (DataW H) → Bool := fun _ ds => decide (uptoBulkAll ds ≤ 1048576)
def OpenSpec.upto (s : _root_.Go.ChangeSpec) : _root_.Go.OpenSpec := { _root_.Go.OpenSpec.ofChange s with cond := some uptoSmall }

/-- 'laws.FnValidGraph', WHERE WHAT IT READS IS OF BULK AT MOST 1048576: true; the input reads as it did. -/
def fnValidGraphUptoRow : OpenClaim := { program := "ytbdckppcljgpgaa", sum := "cdd485e476fca5614e8f484a4dcb6b8d9e19cb907ca6811f8ea9a4f7c81fe1c9", func := "loop.example/signalgraph/laws.FnValidGraph", spec := "fnValidGraph", recurses := true, apart := false, narrowed := true }
def FnValidGraphUptoSaid : Prop := fnValidGraphUptoRow.holds Try.pinned (OpenSpec.upto fnValidGraphSpec)

/-- 'laws.FnMayRead', WHERE WHAT IT READS IS OF BULK AT MOST 1048576: true; the input reads as it did. -/
def fnMayReadUptoRow : OpenClaim := { program := "ytbdckppcljgpgaa", sum := "cdd485e476fca5614e8f484a4dcb6b8d9e19cb907ca6811f8ea9a4f7c81fe1c9", func := "loop.example/signalgraph/laws.FnMayRead", spec := "fnMayRead", unfollowed := true, recurses := true, apart := false, narrowed := true }
def FnMayReadUptoSaid : Prop := fnMayReadUptoRow.holds Try.pinned (OpenSpec.upto fnMayReadSpec)

/-- 'laws.FnValidFormula', WHERE WHAT IT READS IS OF BULK AT MOST 1048576: true; the input reads as it did. -/
def fnValidFormulaUptoRow : OpenClaim := { program := "ytbdckppcljgpgaa", sum := "cdd485e476fca5614e8f484a4dcb6b8d9e19cb907ca6811f8ea9a4f7c81fe1c9", func := "loop.example/signalgraph/laws.FnValidFormula", spec := "fnValidFormula", unfollowed := true, recurses := true, apart := false, narrowed := true }
def FnValidFormulaUptoSaid : Prop := fnValidFormulaUptoRow.holds Try.pinned (OpenSpec.upto fnValidFormulaSpec)

/-- 'laws.FnExactValidGraph', WHERE WHAT IT READS IS OF BULK AT MOST 1048576: true; the input reads as it did. -/
def fnExactValidGraphUptoRow : OpenClaim := { program := "ytbdckppcljgpgaa", sum := "cdd485e476fca5614e8f484a4dcb6b8d9e19cb907ca6811f8ea9a4f7c81fe1c9", func := "loop.example/signalgraph/laws.FnExactValidGraph", spec := "fnExactValidGraph", recurses := true, apart := false, narrowed := true }
def FnExactValidGraphUptoSaid : Prop := fnExactValidGraphUptoRow.holds Try.pinned (OpenSpec.upto fnExactValidGraphSpec)

/-- 'laws.FnValidCells', WHERE WHAT IT READS IS OF BULK AT MOST 1048576: true; the input reads as it did. -/
def fnValidCellsUptoRow : OpenClaim := { program := "ytbdckppcljgpgaa", sum := "cdd485e476fca5614e8f484a4dcb6b8d9e19cb907ca6811f8ea9a4f7c81fe1c9", func := "loop.example/signalgraph/laws.FnValidCells", spec := "fnValidCells", recurses := true, apart := false, narrowed := true }
def FnValidCellsUptoSaid : Prop := fnValidCellsUptoRow.holds Try.pinned (OpenSpec.upto fnValidCellsSpec)

/-- 'laws.FnExactValidCells', WHERE WHAT IT READS IS OF BULK AT MOST 1048576: true; the input reads as it did. -/
def fnExactValidCellsUptoRow : OpenClaim := { program := "ytbdckppcljgpgaa", sum := "cdd485e476fca5614e8f484a4dcb6b8d9e19cb907ca6811f8ea9a4f7c81fe1c9", func := "loop.example/signalgraph/laws.FnExactValidCells", spec := "fnExactValidCells", recurses := true, apart := false, narrowed := true }
def FnExactValidCellsUptoSaid : Prop := fnExactValidCellsUptoRow.holds Try.pinned (OpenSpec.upto fnExactValidCellsSpec)

end Rows
end Go.Proofs.Ytbdckppcljgpgaa
