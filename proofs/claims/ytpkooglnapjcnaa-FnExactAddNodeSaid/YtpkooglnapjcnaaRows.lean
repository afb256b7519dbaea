/-
  No cell of these rows narrows 'for every input' (looked for: loops, veiled, ifaces, maps, wideKeys, modest, calm, conditions, laid).
  DERIVED. THE GIVEN ROWS OF THIS SEAT. 12 by the template 'for every input the law returns true; each argument reads behind the call as it read before'; 0 by the template 'total and deterministic' (their statements: YtpkooglnapjcnaaTotals.lean).
  GIVEN WITH THE SEED: the statements are not yours to turn. If you find one false, say at which input.
  Laid BY PROGRAM, IN A SANDBOX (cutbox-rows.mjs): the forced cells as the released guide's own fill.sh prints them over the translation 58c861523fb7ccff… (all of the seat's roots in one cut). By AI agents, Wed Nov 11 2026. No macro, syntax, notation, axiom, sorry.
-/
import Derived.Test.YtpkooglnapjcnaaChecked
import GoSem.Claim
import GoSem.ClaimJoined
import GoSem.ClaimMapViews
import Derived.JoinedTies
import Derived.KernelRfl
namespace Go.Proofs.Ytpkooglnapjcnaa
/- THE CELL 'sum', in the pinned program and in every row, IS THE sha256 OF THE DUMP (.gsa) THAT YtpkooglnapjcnaaProg.lean LOADS. Nothing in Lean hashes anything: it is a label: what it is worth is what the hold of that sum in a sandbox is worth. -/
noncomputable def Try.pinned : Pinned := { name := "ytpkooglnapjcnaa", sum := "58c861523fb7ccff878074e3501d449e676b33a50f046a4f532336f8fcaa52be", checked := Try.checked }
namespace Rows
def none {H : Type} : Left H := { results := [], args := [] }

/-- 'laws.FnSetCell': WHATEVER THE INPUT: true; the input reads as it did. -/
def fnSetCellSpec : ChangeSpec := { name := "fnSetCell", fn := fun _ => fun
  | [d] => { results := [.lit (.bool true)], args := [d] }
  | _ => none }
def fnSetCellRow : OpenClaim := { program := "ytpkooglnapjcnaa", sum := "58c861523fb7ccff878074e3501d449e676b33a50f046a4f532336f8fcaa52be", func := "loop.example/signalgraph/laws.FnSetCell", spec := "fnSetCell", recurses := true, apart := false }
def FnSetCellSaid : Prop := fnSetCellRow.holds Try.pinned (OpenSpec.ofChange fnSetCellSpec)

/-- ITS FALSE NEIGHBOUR: 'it returns false'. Refute it at one input. -/
def fnSetCellWrong : ChangeSpec := { name := "fnSetCell", fn := fun _ => fun
  | [d] => { results := [.lit (.bool false)], args := [d] }
  | _ => none }
def FnSetCellWrongFalsely : Prop := fnSetCellRow.holds Try.pinned (OpenSpec.ofChange fnSetCellWrong)

/-- 'laws.FnExactSetCell': WHATEVER THE INPUT: true; the input reads as it did. -/
def fnExactSetCellSpec : ChangeSpec := { name := "fnExactSetCell", fn := fun _ => fun
  | [d1, d2, d3, d4] => { results := [.lit (.bool true)], args := [d1, d2, d3, d4] }
  | _ => none }
def fnExactSetCellRow : OpenClaim := { program := "ytpkooglnapjcnaa", sum := "58c861523fb7ccff878074e3501d449e676b33a50f046a4f532336f8fcaa52be", func := "loop.example/signalgraph/laws.FnExactSetCell", spec := "fnExactSetCell", recurses := true, apart := false }
def FnExactSetCellSaid : Prop := fnExactSetCellRow.holds Try.pinned (OpenSpec.ofChange fnExactSetCellSpec)

/-- ITS FALSE NEIGHBOUR: 'it returns false'. Refute it at one input. -/
def fnExactSetCellWrong : ChangeSpec := { name := "fnExactSetCell", fn := fun _ => fun
  | [d1, d2, d3, d4] => { results := [.lit (.bool false)], args := [d1, d2, d3, d4] }
  | _ => none }
def FnExactSetCellWrongFalsely : Prop := fnExactSetCellRow.holds Try.pinned (OpenSpec.ofChange fnExactSetCellWrong)

/-- 'laws.FnMeaningOf': WHATEVER THE INPUT: true; the input reads as it did. -/
def fnMeaningOfSpec : ChangeSpec := { name := "fnMeaningOf", fn := fun _ => fun
  | [d] => { results := [.lit (.bool true)], args := [d] }
  | _ => none }
def fnMeaningOfRow : OpenClaim := { program := "ytpkooglnapjcnaa", sum := "58c861523fb7ccff878074e3501d449e676b33a50f046a4f532336f8fcaa52be", func := "loop.example/signalgraph/laws.FnMeaningOf", spec := "fnMeaningOf", unfollowed := true, recurses := true, apart := false }
def FnMeaningOfSaid : Prop := fnMeaningOfRow.holds Try.pinned (OpenSpec.ofChange fnMeaningOfSpec)

/-- ITS FALSE NEIGHBOUR: 'it returns false'. Refute it at one input. -/
def fnMeaningOfWrong : ChangeSpec := { name := "fnMeaningOf", fn := fun _ => fun
  | [d] => { results := [.lit (.bool false)], args := [d] }
  | _ => none }
def FnMeaningOfWrongFalsely : Prop := fnMeaningOfRow.holds Try.pinned (OpenSpec.ofChange fnMeaningOfWrong)

/-- 'laws.FnExactMeaningOf': WHATEVER THE INPUT: true; the input reads as it did. -/
def fnExactMeaningOfSpec : ChangeSpec := { name := "fnExactMeaningOf", fn := fun _ => fun
  | [d1, d2] => { results := [.lit (.bool true)], args := [d1, d2] }
  | _ => none }
def fnExactMeaningOfRow : OpenClaim := { program := "ytpkooglnapjcnaa", sum := "58c861523fb7ccff878074e3501d449e676b33a50f046a4f532336f8fcaa52be", func := "loop.example/signalgraph/laws.FnExactMeaningOf", spec := "fnExactMeaningOf", unfollowed := true, recurses := true, apart := false }
def FnExactMeaningOfSaid : Prop := fnExactMeaningOfRow.holds Try.pinned (OpenSpec.ofChange fnExactMeaningOfSpec)

/-- ITS FALSE NEIGHBOUR: 'it returns false'. Refute it at one input. -/
def fnExactMeaningOfWrong : ChangeSpec := { name := "fnExactMeaningOf", fn := fun _ => fun
  | [d1, d2] => { results := [.lit (.bool false)], args := [d1, d2] }
  | _ => none }
def FnExactMeaningOfWrongFalsely : Prop := fnExactMeaningOfRow.holds Try.pinned (OpenSpec.ofChange fnExactMeaningOfWrong)

/-- 'laws.FnAddNode': WHATEVER THE INPUT: true; the input reads as it did. -/
def fnAddNodeSpec : ChangeSpec := { name := "fnAddNode", fn := fun _ => fun
  | [d] => { results := [.lit (.bool true)], args := [d] }
  | _ => none }
def fnAddNodeRow : OpenClaim := { program := "ytpkooglnapjcnaa", sum := "58c861523fb7ccff878074e3501d449e676b33a50f046a4f532336f8fcaa52be", func := "loop.example/signalgraph/laws.FnAddNode", spec := "fnAddNode", unfollowed := true, recurses := true, apart := false }
def FnAddNodeSaid : Prop := fnAddNodeRow.holds Try.pinned (OpenSpec.ofChange fnAddNodeSpec)

/-- ITS FALSE NEIGHBOUR: 'it returns false'. Refute it at one input. -/
def fnAddNodeWrong : ChangeSpec := { name := "fnAddNode", fn := fun _ => fun
  | [d] => { results := [.lit (.bool false)], args := [d] }
  | _ => none }
def FnAddNodeWrongFalsely : Prop := fnAddNodeRow.holds Try.pinned (OpenSpec.ofChange fnAddNodeWrong)

/-- 'laws.FnExactAddNode': WHATEVER THE INPUT: true; the input reads as it did. -/
def fnExactAddNodeSpec : ChangeSpec := { name := "fnExactAddNode", fn := fun _ => fun
  | [d1, d2] => { results := [.lit (.bool true)], args := [d1, d2] }
  | _ => none }
def fnExactAddNodeRow : OpenClaim := { program := "ytpkooglnapjcnaa", sum := "58c861523fb7ccff878074e3501d449e676b33a50f046a4f532336f8fcaa52be", func := "loop.example/signalgraph/laws.FnExactAddNode", spec := "fnExactAddNode", recurses := true, apart := false }
def FnExactAddNodeSaid : Prop := fnExactAddNodeRow.holds Try.pinned (OpenSpec.ofChange fnExactAddNodeSpec)

/-- ITS FALSE NEIGHBOUR: 'it returns false'. Refute it at one input. -/
def fnExactAddNodeWrong : ChangeSpec := { name := "fnExactAddNode", fn := fun _ => fun
  | [d1, d2] => { results := [.lit (.bool false)], args := [d1, d2] }
  | _ => none }
def FnExactAddNodeWrongFalsely : Prop := fnExactAddNodeRow.holds Try.pinned (OpenSpec.ofChange fnExactAddNodeWrong)

/-- 'laws.FnValidHistory': WHATEVER THE INPUT: true; the input reads as it did. -/
def fnValidHistorySpec : ChangeSpec := { name := "fnValidHistory", fn := fun _ => fun
  | [d] => { results := [.lit (.bool true)], args := [d] }
  | _ => none }
def fnValidHistoryRow : OpenClaim := { program := "ytpkooglnapjcnaa", sum := "58c861523fb7ccff878074e3501d449e676b33a50f046a4f532336f8fcaa52be", func := "loop.example/signalgraph/laws.FnValidHistory", spec := "fnValidHistory", unfollowed := true, recurses := true, apart := false }
def FnValidHistorySaid : Prop := fnValidHistoryRow.holds Try.pinned (OpenSpec.ofChange fnValidHistorySpec)

/-- ITS FALSE NEIGHBOUR: 'it returns false'. Refute it at one input. -/
def fnValidHistoryWrong : ChangeSpec := { name := "fnValidHistory", fn := fun _ => fun
  | [d] => { results := [.lit (.bool false)], args := [d] }
  | _ => none }
def FnValidHistoryWrongFalsely : Prop := fnValidHistoryRow.holds Try.pinned (OpenSpec.ofChange fnValidHistoryWrong)

/-- 'laws.FnExactValidHistory': WHATEVER THE INPUT: true; the input reads as it did. -/
def fnExactValidHistorySpec : ChangeSpec := { name := "fnExactValidHistory", fn := fun _ => fun
  | [d1, d2] => { results := [.lit (.bool true)], args := [d1, d2] }
  | _ => none }
def fnExactValidHistoryRow : OpenClaim := { program := "ytpkooglnapjcnaa", sum := "58c861523fb7ccff878074e3501d449e676b33a50f046a4f532336f8fcaa52be", func := "loop.example/signalgraph/laws.FnExactValidHistory", spec := "fnExactValidHistory", unfollowed := true, recurses := true, apart := false }
def FnExactValidHistorySaid : Prop := fnExactValidHistoryRow.holds Try.pinned (OpenSpec.ofChange fnExactValidHistorySpec)

/-- ITS FALSE NEIGHBOUR: 'it returns false'. Refute it at one input. -/
def fnExactValidHistoryWrong : ChangeSpec := { name := "fnExactValidHistory", fn := fun _ => fun
  | [d1, d2] => { results := [.lit (.bool false)], args := [d1, d2] }
  | _ => none }
def FnExactValidHistoryWrongFalsely : Prop := fnExactValidHistoryRow.holds Try.pinned (OpenSpec.ofChange fnExactValidHistoryWrong)

/-- 'laws.FnNewHistory': WHATEVER THE INPUT: true; the input reads as it did. -/
def fnNewHistorySpec : ChangeSpec := { name := "fnNewHistory", fn := fun _ => fun
  | [d] => { results := [.lit (.bool true)], args := [d] }
  | _ => none }
def fnNewHistoryRow : OpenClaim := { program := "ytpkooglnapjcnaa", sum := "58c861523fb7ccff878074e3501d449e676b33a50f046a4f532336f8fcaa52be", func := "loop.example/signalgraph/laws.FnNewHistory", spec := "fnNewHistory", unfollowed := true, recurses := true, apart := false }
def FnNewHistorySaid : Prop := fnNewHistoryRow.holds Try.pinned (OpenSpec.ofChange fnNewHistorySpec)

/-- ITS FALSE NEIGHBOUR: 'it returns false'. Refute it at one input. -/
def fnNewHistoryWrong : ChangeSpec := { name := "fnNewHistory", fn := fun _ => fun
  | [d] => { results := [.lit (.bool false)], args := [d] }
  | _ => none }
def FnNewHistoryWrongFalsely : Prop := fnNewHistoryRow.holds Try.pinned (OpenSpec.ofChange fnNewHistoryWrong)

/-- 'laws.FnExactNewHistory': WHATEVER THE INPUT: true; the input reads as it did. -/
def fnExactNewHistorySpec : ChangeSpec := { name := "fnExactNewHistory", fn := fun _ => fun
  | [d1, d2] => { results := [.lit (.bool true)], args := [d1, d2] }
  | _ => none }
def fnExactNewHistoryRow : OpenClaim := { program := "ytpkooglnapjcnaa", sum := "58c861523fb7ccff878074e3501d449e676b33a50f046a4f532336f8fcaa52be", func := "loop.example/signalgraph/laws.FnExactNewHistory", spec := "fnExactNewHistory", recurses := true, apart := false }
def FnExactNewHistorySaid : Prop := fnExactNewHistoryRow.holds Try.pinned (OpenSpec.ofChange fnExactNewHistorySpec)

/-- ITS FALSE NEIGHBOUR: 'it returns false'. Refute it at one input. -/
def fnExactNewHistoryWrong : ChangeSpec := { name := "fnExactNewHistory", fn := fun _ => fun
  | [d1, d2] => { results := [.lit (.bool false)], args := [d1, d2] }
  | _ => none }
def FnExactNewHistoryWrongFalsely : Prop := fnExactNewHistoryRow.holds Try.pinned (OpenSpec.ofChange fnExactNewHistoryWrong)

/-- 'laws.FnCommitCells': WHATEVER THE INPUT: true; the input reads as it did. -/
def fnCommitCellsSpec : ChangeSpec := { name := "fnCommitCells", fn := fun _ => fun
  | [d] => { results := [.lit (.bool true)], args := [d] }
  | _ => none }
def fnCommitCellsRow : OpenClaim := { program := "ytpkooglnapjcnaa", sum := "58c861523fb7ccff878074e3501d449e676b33a50f046a4f532336f8fcaa52be", func := "loop.example/signalgraph/laws.FnCommitCells", spec := "fnCommitCells", unfollowed := true, recurses := true, apart := false }
def FnCommitCellsSaid : Prop := fnCommitCellsRow.holds Try.pinned (OpenSpec.ofChange fnCommitCellsSpec)

/-- ITS FALSE NEIGHBOUR: 'it returns false'. Refute it at one input. -/
def fnCommitCellsWrong : ChangeSpec := { name := "fnCommitCells", fn := fun _ => fun
  | [d] => { results := [.lit (.bool false)], args := [d] }
  | _ => none }
def FnCommitCellsWrongFalsely : Prop := fnCommitCellsRow.holds Try.pinned (OpenSpec.ofChange fnCommitCellsWrong)

/-- 'laws.FnExactCommitCells': WHATEVER THE INPUT: true; the input reads as it did. -/
def fnExactCommitCellsSpec : ChangeSpec := { name := "fnExactCommitCells", fn := fun _ => fun
  | [d1, d2, d3] => { results := [.lit (.bool true)], args := [d1, d2, d3] }
  | _ => none }
def fnExactCommitCellsRow : OpenClaim := { program := "ytpkooglnapjcnaa", sum := "58c861523fb7ccff878074e3501d449e676b33a50f046a4f532336f8fcaa52be", func := "loop.example/signalgraph/laws.FnExactCommitCells", spec := "fnExactCommitCells", unfollowed := true, recurses := true, apart := false }
def FnExactCommitCellsSaid : Prop := fnExactCommitCellsRow.holds Try.pinned (OpenSpec.ofChange fnExactCommitCellsSpec)

/-- ITS FALSE NEIGHBOUR: 'it returns false'. Refute it at one input. -/
def fnExactCommitCellsWrong : ChangeSpec := { name := "fnExactCommitCells", fn := fun _ => fun
  | [d1, d2, d3] => { results := [.lit (.bool false)], args := [d1, d2, d3] }
  | _ => none }
def FnExactCommitCellsWrongFalsely : Prop := fnExactCommitCellsRow.holds Try.pinned (OpenSpec.ofChange fnExactCommitCellsWrong)

/- THE SECOND FORM. 'bulk': how many values and letters a reading holds, each counted each time it is reached (what is shared counts as often as it is met; a slice's spare places count too). A statement '..UptoSaid' is the law's where the arguments, and the package variables that the reading takes, are together of bulk at most 1048576: NARROWER than '..Said'. Prove '..Said' where nothing that the law and all that it calls make is longer than what came in: it says more and counts as full. Else prove '..UptoSaid'. A law counts once. -/
mutual
def uptoBulk {H : Type} : DataW H → Nat
  | .lit (.string bytes) => bytes.length + 1
  | .lit _ => 1
  | .nil => 1
  | .ptr d => uptoBulk d + 1
  | .slice elems spare => uptoBulkAll elems + uptoBulkAll spare + 1
  | .agg parts => uptoBulkAll parts + 1
  | .iface _ d => uptoBulk d + 1
  | .map entries => uptoBulkEntries entries + 1
  | .held _ => 1
def uptoBulkAll {H : Type} : List (DataW H) → Nat
  | [] => 0
  | d :: r => uptoBulk d + uptoBulkAll r
def uptoBulkEntries {H : Type} : List (Lit × DataW H) → Nat
  | [] => 0
  | x :: r => uptoBulkEntry x + uptoBulkEntries r
def uptoBulkEntry {H : Type} : Lit × DataW H → Nat
  | (.string bytes, d) => bytes.length + uptoBulk d + 1
  | (_, d) => uptoBulk d + 1
 end
def uptoSmall : (H : Type) → List (DataW H) → Bool := fun _ ds => decide (uptoBulkAll ds ≤ 1048576)
def OpenSpec.upto (s : _root_.Go.ChangeSpec) : _root_.Go.OpenSpec := { _root_.Go.OpenSpec.ofChange s with cond := some uptoSmall }

/-- 'laws.FnSetCell', WHERE WHAT IT READS IS OF BULK AT MOST 1048576: true; the input reads as it did. -/
def fnSetCellUptoRow : OpenClaim := { program := "ytpkooglnapjcnaa", sum := "58c861523fb7ccff878074e3501d449e676b33a50f046a4f532336f8fcaa52be", func := "loop.example/signalgraph/laws.FnSetCell", spec := "fnSetCell", recurses := true, apart := false, narrowed := true }
def FnSetCellUptoSaid : Prop := fnSetCellUptoRow.holds Try.pinned (OpenSpec.upto fnSetCellSpec)

/-- 'laws.FnExactSetCell', WHERE WHAT IT READS IS OF BULK AT MOST 1048576: true; the input reads as it did. -/
def fnExactSetCellUptoRow : OpenClaim := { program := "ytpkooglnapjcnaa", sum := "58c861523fb7ccff878074e3501d449e676b33a50f046a4f532336f8fcaa52be", func := "loop.example/signalgraph/laws.FnExactSetCell", spec := "fnExactSetCell", recurses := true, apart := false, narrowed := true }
def FnExactSetCellUptoSaid : Prop := fnExactSetCellUptoRow.holds Try.pinned (OpenSpec.upto fnExactSetCellSpec)

/-- 'laws.FnMeaningOf', WHERE WHAT IT READS IS OF BULK AT MOST 1048576: true; the input reads as it did. -/
def fnMeaningOfUptoRow : OpenClaim := { program := "ytpkooglnapjcnaa", sum := "58c861523fb7ccff878074e3501d449e676b33a50f046a4f532336f8fcaa52be", func := "loop.example/signalgraph/laws.FnMeaningOf", spec := "fnMeaningOf", unfollowed := true, recurses := true, apart := false, narrowed := true }
def FnMeaningOfUptoSaid : Prop := fnMeaningOfUptoRow.holds Try.pinned (OpenSpec.upto fnMeaningOfSpec)

/-- 'laws.FnExactMeaningOf', WHERE WHAT IT READS IS OF BULK AT MOST 1048576: true; the input reads as it did. -/
def fnExactMeaningOfUptoRow : OpenClaim := { program := "ytpkooglnapjcnaa", sum := "58c861523fb7ccff878074e3501d449e676b33a50f046a4f532336f8fcaa52be", func := "loop.example/signalgraph/laws.FnExactMeaningOf", spec := "fnExactMeaningOf", unfollowed := true, recurses := true, apart := false, narrowed := true }
def FnExactMeaningOfUptoSaid : Prop := fnExactMeaningOfUptoRow.holds Try.pinned (OpenSpec.upto fnExactMeaningOfSpec)

/-- 'laws.FnAddNode', WHERE WHAT IT READS IS OF BULK AT MOST 1048576: true; the input reads as it did. -/
def fnAddNodeUptoRow : OpenClaim := { program := "ytpkooglnapjcnaa", sum := "58c861523fb7ccff878074e3501d449e676b33a50f046a4f532336f8fcaa52be", func := "loop.example/signalgraph/laws.FnAddNode", spec := "fnAddNode", unfollowed := true, recurses := true, apart := false, narrowed := true }
def FnAddNodeUptoSaid : Prop := fnAddNodeUptoRow.holds Try.pinned (OpenSpec.upto fnAddNodeSpec)

/-- 'laws.FnExactAddNode', WHERE WHAT IT READS IS OF BULK AT MOST 1048576: true; the input reads as it did. -/
def fnExactAddNodeUptoRow : OpenClaim := { program := "ytpkooglnapjcnaa", sum := "58c861523fb7ccff878074e3501d449e676b33a50f046a4f532336f8fcaa52be", func := "loop.example/signalgraph/laws.FnExactAddNode", spec := "fnExactAddNode", recurses := true, apart := false, narrowed := true }
def FnExactAddNodeUptoSaid : Prop := fnExactAddNodeUptoRow.holds Try.pinned (OpenSpec.upto fnExactAddNodeSpec)

/-- 'laws.FnValidHistory', WHERE WHAT IT READS IS OF BULK AT MOST 1048576: true; the input reads as it did. -/
def fnValidHistoryUptoRow : OpenClaim := { program := "ytpkooglnapjcnaa", sum := "58c861523fb7ccff878074e3501d449e676b33a50f046a4f532336f8fcaa52be", func := "loop.example/signalgraph/laws.FnValidHistory", spec := "fnValidHistory", unfollowed := true, recurses := true, apart := false, narrowed := true }
def FnValidHistoryUptoSaid : Prop := fnValidHistoryUptoRow.holds Try.pinned (OpenSpec.upto fnValidHistorySpec)

/-- 'laws.FnExactValidHistory', WHERE WHAT IT READS IS OF BULK AT MOST 1048576: true; the input reads as it did. -/
def fnExactValidHistoryUptoRow : OpenClaim := { program := "ytpkooglnapjcnaa", sum := "58c861523fb7ccff878074e3501d449e676b33a50f046a4f532336f8fcaa52be", func := "loop.example/signalgraph/laws.FnExactValidHistory", spec := "fnExactValidHistory", unfollowed := true, recurses := true, apart := false, narrowed := true }
def FnExactValidHistoryUptoSaid : Prop := fnExactValidHistoryUptoRow.holds Try.pinned (OpenSpec.upto fnExactValidHistorySpec)

/-- 'laws.FnNewHistory', WHERE WHAT IT READS IS OF BULK AT MOST 1048576: true; the input reads as it did. -/
def fnNewHistoryUptoRow : OpenClaim := { program := "ytpkooglnapjcnaa", sum := "58c861523fb7ccff878074e3501d449e676b33a50f046a4f532336f8fcaa52be", func := "loop.example/signalgraph/laws.FnNewHistory", spec := "fnNewHistory", unfollowed := true, recurses := true, apart := false, narrowed := true }
def FnNewHistoryUptoSaid : Prop := fnNewHistoryUptoRow.holds Try.pinned (OpenSpec.upto fnNewHistorySpec)

/-- 'laws.FnExactNewHistory', WHERE WHAT IT READS IS OF BULK AT MOST 1048576: true; the input reads as it did. -/
def fnExactNewHistoryUptoRow : OpenClaim := { program := "ytpkooglnapjcnaa", sum := "58c861523fb7ccff878074e3501d449e676b33a50f046a4f532336f8fcaa52be", func := "loop.example/signalgraph/laws.FnExactNewHistory", spec := "fnExactNewHistory", recurses := true, apart := false, narrowed := true }
def FnExactNewHistoryUptoSaid : Prop := fnExactNewHistoryUptoRow.holds Try.pinned (OpenSpec.upto fnExactNewHistorySpec)

/-- 'laws.FnCommitCells', WHERE WHAT IT READS IS OF BULK AT MOST 1048576: true; the input reads as it did. -/
def fnCommitCellsUptoRow : OpenClaim := { program := "ytpkooglnapjcnaa", sum := "58c861523fb7ccff878074e3501d449e676b33a50f046a4f532336f8fcaa52be", func := "loop.example/signalgraph/laws.FnCommitCells", spec := "fnCommitCells", unfollowed := true, recurses := true, apart := false, narrowed := true }
def FnCommitCellsUptoSaid : Prop := fnCommitCellsUptoRow.holds Try.pinned (OpenSpec.upto fnCommitCellsSpec)

/-- 'laws.FnExactCommitCells', WHERE WHAT IT READS IS OF BULK AT MOST 1048576: true; the input reads as it did. -/
def fnExactCommitCellsUptoRow : OpenClaim := { program := "ytpkooglnapjcnaa", sum := "58c861523fb7ccff878074e3501d449e676b33a50f046a4f532336f8fcaa52be", func := "loop.example/signalgraph/laws.FnExactCommitCells", spec := "fnExactCommitCells", unfollowed := true, recurses := true, apart := false, narrowed := true }
def FnExactCommitCellsUptoSaid : Prop := fnExactCommitCellsUptoRow.holds Try.pinned (OpenSpec.upto fnExactCommitCellsSpec)

end Rows
end Go.Proofs.Ytpkooglnapjcnaa
