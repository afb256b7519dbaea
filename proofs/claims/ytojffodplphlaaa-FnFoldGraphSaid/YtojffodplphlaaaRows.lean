/-
  No cell of these rows narrows 'for every input' (looked for: loops, veiled, ifaces, maps, wideKeys, modest, calm, conditions, laid).
  DERIVED. THE GIVEN ROWS OF THIS SEAT. 11 by the template 'for every input the law returns true; each argument reads behind the call as it read before'; 0 by the template 'total and deterministic' (their statements: YtojffodplphlaaaTotals.lean).
  GIVEN WITH THE SEED: the statements are not yours to turn. If you find one false, say at which input.
  Laid BY PROGRAM, IN A SANDBOX (cutbox-rows.mjs): the forced cells as the released guide's own fill.sh prints them over the translation 635cbfd503b34b64… (all of the seat's roots in one cut). By AI agents, Wed Nov 11 2026. No macro, syntax, notation, axiom, sorry.
-/
import Derived.Test.YtojffodplphlaaaChecked
import GoSem.Claim
import GoSem.ClaimJoined
import GoSem.ClaimMapViews
import Derived.JoinedTies
import Derived.KernelRfl
namespace Go.Proofs.Ytojffodplphlaaa
/- THE CELL 'sum', in the pinned program and in every row, IS THE sha256 OF THE DUMP (.gsa) THAT YtojffodplphlaaaProg.lean LOADS. Nothing in Lean hashes anything: it is a label: what it is worth is what the hold of that sum in a sandbox is worth. -/
noncomputable def Try.pinned : Pinned := { name := "ytojffodplphlaaa", sum := "635cbfd503b34b6427a1c1d1b31ba9e0c1cba641728164991b690e7ef03bd552", checked := Try.checked }
namespace Rows
def none {H : Type} : Left H := { results := [], args := [] }

/-- 'laws.FnMeaningOfFar': WHATEVER THE INPUT: true; the input reads as it did. -/
def fnMeaningOfFarSpec : ChangeSpec := { name := "fnMeaningOfFar", fn := fun _ => fun
  | [d] => { results := [.lit (.bool true)], args := [d] }
  | _ => none }
def fnMeaningOfFarRow : OpenClaim := { program := "ytojffodplphlaaa", sum := "635cbfd503b34b6427a1c1d1b31ba9e0c1cba641728164991b690e7ef03bd552", func := "loop.example/signalgraph/laws.FnMeaningOfFar", spec := "fnMeaningOfFar", unfollowed := true, recurses := true, apart := false }
def FnMeaningOfFarSaid : Prop := fnMeaningOfFarRow.holds Try.pinned (OpenSpec.ofChange fnMeaningOfFarSpec)

/-- ITS FALSE NEIGHBOUR: 'it returns false'. Refute it at one input. -/
def fnMeaningOfFarWrong : ChangeSpec := { name := "fnMeaningOfFar", fn := fun _ => fun
  | [d] => { results := [.lit (.bool false)], args := [d] }
  | _ => none }
def FnMeaningOfFarWrongFalsely : Prop := fnMeaningOfFarRow.holds Try.pinned (OpenSpec.ofChange fnMeaningOfFarWrong)

/-- 'laws.FnDepsOf': WHATEVER THE INPUT: true; the input reads as it did. -/
def fnDepsOfSpec : ChangeSpec := { name := "fnDepsOf", fn := fun _ => fun
  | [d] => { results := [.lit (.bool true)], args := [d] }
  | _ => none }
def fnDepsOfRow : OpenClaim := { program := "ytojffodplphlaaa", sum := "635cbfd503b34b6427a1c1d1b31ba9e0c1cba641728164991b690e7ef03bd552", func := "loop.example/signalgraph/laws.FnDepsOf", spec := "fnDepsOf", unfollowed := true, recurses := true, apart := false }
def FnDepsOfSaid : Prop := fnDepsOfRow.holds Try.pinned (OpenSpec.ofChange fnDepsOfSpec)

/-- ITS FALSE NEIGHBOUR: 'it returns false'. Refute it at one input. -/
def fnDepsOfWrong : ChangeSpec := { name := "fnDepsOf", fn := fun _ => fun
  | [d] => { results := [.lit (.bool false)], args := [d] }
  | _ => none }
def FnDepsOfWrongFalsely : Prop := fnDepsOfRow.holds Try.pinned (OpenSpec.ofChange fnDepsOfWrong)

/-- 'laws.FnExactDepsOf': WHATEVER THE INPUT: true; the input reads as it did. -/
def fnExactDepsOfSpec : ChangeSpec := { name := "fnExactDepsOf", fn := fun _ => fun
  | [d1, d2] => { results := [.lit (.bool true)], args := [d1, d2] }
  | _ => none }
def fnExactDepsOfRow : OpenClaim := { program := "ytojffodplphlaaa", sum := "635cbfd503b34b6427a1c1d1b31ba9e0c1cba641728164991b690e7ef03bd552", func := "loop.example/signalgraph/laws.FnExactDepsOf", spec := "fnExactDepsOf", unfollowed := true, recurses := true, apart := false }
def FnExactDepsOfSaid : Prop := fnExactDepsOfRow.holds Try.pinned (OpenSpec.ofChange fnExactDepsOfSpec)

/-- ITS FALSE NEIGHBOUR: 'it returns false'. Refute it at one input. -/
def fnExactDepsOfWrong : ChangeSpec := { name := "fnExactDepsOf", fn := fun _ => fun
  | [d1, d2] => { results := [.lit (.bool false)], args := [d1, d2] }
  | _ => none }
def FnExactDepsOfWrongFalsely : Prop := fnExactDepsOfRow.holds Try.pinned (OpenSpec.ofChange fnExactDepsOfWrong)

/-- 'laws.FnChangedBy': WHATEVER THE INPUT: true; the input reads as it did. -/
def fnChangedBySpec : ChangeSpec := { name := "fnChangedBy", fn := fun _ => fun
  | [d] => { results := [.lit (.bool true)], args := [d] }
  | _ => none }
def fnChangedByRow : OpenClaim := { program := "ytojffodplphlaaa", sum := "635cbfd503b34b6427a1c1d1b31ba9e0c1cba641728164991b690e7ef03bd552", func := "loop.example/signalgraph/laws.FnChangedBy", spec := "fnChangedBy", unfollowed := true, recurses := true, apart := false }
def FnChangedBySaid : Prop := fnChangedByRow.holds Try.pinned (OpenSpec.ofChange fnChangedBySpec)

/-- ITS FALSE NEIGHBOUR: 'it returns false'. Refute it at one input. -/
def fnChangedByWrong : ChangeSpec := { name := "fnChangedBy", fn := fun _ => fun
  | [d] => { results := [.lit (.bool false)], args := [d] }
  | _ => none }
def FnChangedByWrongFalsely : Prop := fnChangedByRow.holds Try.pinned (OpenSpec.ofChange fnChangedByWrong)

/-- 'laws.FnExactChangedBy': WHATEVER THE INPUT: true; the input reads as it did. -/
def fnExactChangedBySpec : ChangeSpec := { name := "fnExactChangedBy", fn := fun _ => fun
  | [d1, d2, d3] => { results := [.lit (.bool true)], args := [d1, d2, d3] }
  | _ => none }
def fnExactChangedByRow : OpenClaim := { program := "ytojffodplphlaaa", sum := "635cbfd503b34b6427a1c1d1b31ba9e0c1cba641728164991b690e7ef03bd552", func := "loop.example/signalgraph/laws.FnExactChangedBy", spec := "fnExactChangedBy", unfollowed := true, recurses := true, apart := false }
def FnExactChangedBySaid : Prop := fnExactChangedByRow.holds Try.pinned (OpenSpec.ofChange fnExactChangedBySpec)

/-- ITS FALSE NEIGHBOUR: 'it returns false'. Refute it at one input. -/
def fnExactChangedByWrong : ChangeSpec := { name := "fnExactChangedBy", fn := fun _ => fun
  | [d1, d2, d3] => { results := [.lit (.bool false)], args := [d1, d2, d3] }
  | _ => none }
def FnExactChangedByWrongFalsely : Prop := fnExactChangedByRow.holds Try.pinned (OpenSpec.ofChange fnExactChangedByWrong)

/-- 'laws.FnMustRun': WHATEVER THE INPUT: true; the input reads as it did. -/
def fnMustRunSpec : ChangeSpec := { name := "fnMustRun", fn := fun _ => fun
  | [d] => { results := [.lit (.bool true)], args := [d] }
  | _ => none }
def fnMustRunRow : OpenClaim := { program := "ytojffodplphlaaa", sum := "635cbfd503b34b6427a1c1d1b31ba9e0c1cba641728164991b690e7ef03bd552", func := "loop.example/signalgraph/laws.FnMustRun", spec := "fnMustRun", unfollowed := true, recurses := true, apart := false }
def FnMustRunSaid : Prop := fnMustRunRow.holds Try.pinned (OpenSpec.ofChange fnMustRunSpec)

/-- ITS FALSE NEIGHBOUR: 'it returns false'. Refute it at one input. -/
def fnMustRunWrong : ChangeSpec := { name := "fnMustRun", fn := fun _ => fun
  | [d] => { results := [.lit (.bool false)], args := [d] }
  | _ => none }
def FnMustRunWrongFalsely : Prop := fnMustRunRow.holds Try.pinned (OpenSpec.ofChange fnMustRunWrong)

/-- 'laws.FnMayRun': WHATEVER THE INPUT: true; the input reads as it did. -/
def fnMayRunSpec : ChangeSpec := { name := "fnMayRun", fn := fun _ => fun
  | [d] => { results := [.lit (.bool true)], args := [d] }
  | _ => none }
def fnMayRunRow : OpenClaim := { program := "ytojffodplphlaaa", sum := "635cbfd503b34b6427a1c1d1b31ba9e0c1cba641728164991b690e7ef03bd552", func := "loop.example/signalgraph/laws.FnMayRun", spec := "fnMayRun", unfollowed := true, recurses := true, apart := false }
def FnMayRunSaid : Prop := fnMayRunRow.holds Try.pinned (OpenSpec.ofChange fnMayRunSpec)

/-- ITS FALSE NEIGHBOUR: 'it returns false'. Refute it at one input. -/
def fnMayRunWrong : ChangeSpec := { name := "fnMayRun", fn := fun _ => fun
  | [d] => { results := [.lit (.bool false)], args := [d] }
  | _ => none }
def FnMayRunWrongFalsely : Prop := fnMayRunRow.holds Try.pinned (OpenSpec.ofChange fnMayRunWrong)

/-- 'laws.FnExactMayRun': WHATEVER THE INPUT: true; the input reads as it did. -/
def fnExactMayRunSpec : ChangeSpec := { name := "fnExactMayRun", fn := fun _ => fun
  | [d1, d2] => { results := [.lit (.bool true)], args := [d1, d2] }
  | _ => none }
def fnExactMayRunRow : OpenClaim := { program := "ytojffodplphlaaa", sum := "635cbfd503b34b6427a1c1d1b31ba9e0c1cba641728164991b690e7ef03bd552", func := "loop.example/signalgraph/laws.FnExactMayRun", spec := "fnExactMayRun", unfollowed := true, recurses := true, apart := false }
def FnExactMayRunSaid : Prop := fnExactMayRunRow.holds Try.pinned (OpenSpec.ofChange fnExactMayRunSpec)

/-- ITS FALSE NEIGHBOUR: 'it returns false'. Refute it at one input. -/
def fnExactMayRunWrong : ChangeSpec := { name := "fnExactMayRun", fn := fun _ => fun
  | [d1, d2] => { results := [.lit (.bool false)], args := [d1, d2] }
  | _ => none }
def FnExactMayRunWrongFalsely : Prop := fnExactMayRunRow.holds Try.pinned (OpenSpec.ofChange fnExactMayRunWrong)

/-- 'laws.FnFoldFormula': WHATEVER THE INPUT: true; the input reads as it did. -/
def fnFoldFormulaSpec : ChangeSpec := { name := "fnFoldFormula", fn := fun _ => fun
  | [d] => { results := [.lit (.bool true)], args := [d] }
  | _ => none }
def fnFoldFormulaRow : OpenClaim := { program := "ytojffodplphlaaa", sum := "635cbfd503b34b6427a1c1d1b31ba9e0c1cba641728164991b690e7ef03bd552", func := "loop.example/signalgraph/laws.FnFoldFormula", spec := "fnFoldFormula", unfollowed := true, recurses := true, apart := false }
def FnFoldFormulaSaid : Prop := fnFoldFormulaRow.holds Try.pinned (OpenSpec.ofChange fnFoldFormulaSpec)

/-- ITS FALSE NEIGHBOUR: 'it returns false'. Refute it at one input. -/
def fnFoldFormulaWrong : ChangeSpec := { name := "fnFoldFormula", fn := fun _ => fun
  | [d] => { results := [.lit (.bool false)], args := [d] }
  | _ => none }
def FnFoldFormulaWrongFalsely : Prop := fnFoldFormulaRow.holds Try.pinned (OpenSpec.ofChange fnFoldFormulaWrong)

/-- 'laws.FnFoldGraph': WHATEVER THE INPUT: true; the input reads as it did. -/
def fnFoldGraphSpec : ChangeSpec := { name := "fnFoldGraph", fn := fun _ => fun
  | [d] => { results := [.lit (.bool true)], args := [d] }
  | _ => none }
def fnFoldGraphRow : OpenClaim := { program := "ytojffodplphlaaa", sum := "635cbfd503b34b6427a1c1d1b31ba9e0c1cba641728164991b690e7ef03bd552", func := "loop.example/signalgraph/laws.FnFoldGraph", spec := "fnFoldGraph", unfollowed := true, recurses := true, apart := false }
def FnFoldGraphSaid : Prop := fnFoldGraphRow.holds Try.pinned (OpenSpec.ofChange fnFoldGraphSpec)

/-- ITS FALSE NEIGHBOUR: 'it returns false'. Refute it at one input. -/
def fnFoldGraphWrong : ChangeSpec := { name := "fnFoldGraph", fn := fun _ => fun
  | [d] => { results := [.lit (.bool false)], args := [d] }
  | _ => none }
def FnFoldGraphWrongFalsely : Prop := fnFoldGraphRow.holds Try.pinned (OpenSpec.ofChange fnFoldGraphWrong)

/-- 'laws.FnExactFoldGraph': WHATEVER THE INPUT: true; the input reads as it did. -/
def fnExactFoldGraphSpec : ChangeSpec := { name := "fnExactFoldGraph", fn := fun _ => fun
  | [d] => { results := [.lit (.bool true)], args := [d] }
  | _ => none }
def fnExactFoldGraphRow : OpenClaim := { program := "ytojffodplphlaaa", sum := "635cbfd503b34b6427a1c1d1b31ba9e0c1cba641728164991b690e7ef03bd552", func := "loop.example/signalgraph/laws.FnExactFoldGraph", spec := "fnExactFoldGraph", unfollowed := true, recurses := true, apart := false }
def FnExactFoldGraphSaid : Prop := fnExactFoldGraphRow.holds Try.pinned (OpenSpec.ofChange fnExactFoldGraphSpec)

/-- ITS FALSE NEIGHBOUR: 'it returns false'. Refute it at one input. -/
def fnExactFoldGraphWrong : ChangeSpec := { name := "fnExactFoldGraph", fn := fun _ => fun
  | [d] => { results := [.lit (.bool false)], args := [d] }
  | _ => none }
def FnExactFoldGraphWrongFalsely : Prop := fnExactFoldGraphRow.holds Try.pinned (OpenSpec.ofChange fnExactFoldGraphWrong)

/- THE SECOND FORM. 'bulk': how many values and letters a reading holds, each counted each time it is reached (what is shared counts as often as it is met; a slice's spare places count too). A statement '..UptoSaid' is the law's where the arguments, and the package variables that the reading takes, are together of bulk at most 1048576: NARROWER than '..Said'. Prove '..Said' where nothing that the law and all that it calls make is longer than what came in: it says more and counts as full. Else prove '..UptoSaid'. A law counts once. -/
mutual
def uptoBulk {H : Type} : DataW H → Nat
  | .lit (.string bytes) => bytes.length + 1
  | .lit _ => 1
  | .nil => 1
  | .ptr d => uptoBulk d + 1
  | .slice elems spare => uptoBulkAll elems + uptoBulkAll spare + 1
  | .agg parts => uptoBulkAll parts + 1
  | .iface _ d => uptoBulk d + 1
  | .map entries => uptoBulkEntries entries + 1
  | .held _ => 1
def uptoBulkAll {H : Type} : List (DataW H) → Nat
  | [] => 0
  | d :: r => uptoBulk d + uptoBulkAll r
def uptoBulkEntries {H : Type} : List (Lit × DataW H) → Nat
  | [] => 0
  | x :: r => uptoBulkEntry x + uptoBulkEntries r
def uptoBulkEntry {H : Type} : Lit × DataW H → Nat
  | (.string bytes, d) => bytes.length + uptoBulk d + 1
  | (_, d) => uptoBulk d + 1
 end
def uptoSmall : (H : Type) → List (DataW H) → Bool := fun _ ds => decide (uptoBulkAll ds ≤ 1048576)
def OpenSpec.upto (s : _root_.Go.ChangeSpec) : _root_.Go.OpenSpec := { _root_.Go.OpenSpec.ofChange s with cond := some uptoSmall }

/-- 'laws.FnMeaningOfFar', WHERE WHAT IT READS IS OF BULK AT MOST 1048576: true; the input reads as it did. -/
def fnMeaningOfFarUptoRow : OpenClaim := { program := "ytojffodplphlaaa", sum := "635cbfd503b34b6427a1c1d1b31ba9e0c1cba641728164991b690e7ef03bd552", func := "loop.example/signalgraph/laws.FnMeaningOfFar", spec := "fnMeaningOfFar", unfollowed := true, recurses := true, apart := false, narrowed := true }
def FnMeaningOfFarUptoSaid : Prop := fnMeaningOfFarUptoRow.holds Try.pinned (OpenSpec.upto fnMeaningOfFarSpec)

/-- 'laws.FnDepsOf', WHERE WHAT IT READS IS OF BULK AT MOST 1048576: true; the input reads as it did. -/
def fnDepsOfUptoRow : OpenClaim := { program := "ytojffodplphlaaa", sum := "635cbfd503b34b6427a1c1d1b31ba9e0c1cba641728164991b690e7ef03bd552", func := "loop.example/signalgraph/laws.FnDepsOf", spec := "fnDepsOf", unfollowed := true, recurses := true, apart := false, narrowed := true }
def FnDepsOfUptoSaid : Prop := fnDepsOfUptoRow.holds Try.pinned (OpenSpec.upto fnDepsOfSpec)

/-- 'laws.FnExactDepsOf', WHERE WHAT IT READS IS OF BULK AT MOST 1048576: true; the input reads as it did. -/
def fnExactDepsOfUptoRow : OpenClaim := { program := "ytojffodplphlaaa", sum := "635cbfd503b34b6427a1c1d1b31ba9e0c1cba641728164991b690e7ef03bd552", func := "loop.example/signalgraph/laws.FnExactDepsOf", spec := "fnExactDepsOf", unfollowed := true, recurses := true, apart := false, narrowed := true }
def FnExactDepsOfUptoSaid : Prop := fnExactDepsOfUptoRow.holds Try.pinned (OpenSpec.upto fnExactDepsOfSpec)

/-- 'laws.FnChangedBy', WHERE WHAT IT READS IS OF BULK AT MOST 1048576: true; the input reads as it did. -/
def fnChangedByUptoRow : OpenClaim := { program := "ytojffodplphlaaa", sum := "635cbfd503b34b6427a1c1d1b31ba9e0c1cba641728164991b690e7ef03bd552", func := "loop.example/signalgraph/laws.FnChangedBy", spec := "fnChangedBy", unfollowed := true, recurses := true, apart := false, narrowed := true }
def FnChangedByUptoSaid : Prop := fnChangedByUptoRow.holds Try.pinned (OpenSpec.upto fnChangedBySpec)

/-- 'laws.FnExactChangedBy', WHERE WHAT IT READS IS OF BULK AT MOST 1048576: true; the input reads as it did. -/
def fnExactChangedByUptoRow : OpenClaim := { program := "ytojffodplphlaaa", sum := "635cbfd503b34b6427a1c1d1b31ba9e0c1cba641728164991b690e7ef03bd552", func := "loop.example/signalgraph/laws.FnExactChangedBy", spec := "fnExactChangedBy", unfollowed := true, recurses := true, apart := false, narrowed := true }
def FnExactChangedByUptoSaid : Prop := fnExactChangedByUptoRow.holds Try.pinned (OpenSpec.upto fnExactChangedBySpec)

/-- 'laws.FnMustRun', WHERE WHAT IT READS IS OF BULK AT MOST 1048576: true; the input reads as it did. -/
def fnMustRunUptoRow : OpenClaim := { program := "ytojffodplphlaaa", sum := "635cbfd503b34b6427a1c1d1b31ba9e0c1cba641728164991b690e7ef03bd552", func := "loop.example/signalgraph/laws.FnMustRun", spec := "fnMustRun", unfollowed := true, recurses := true, apart := false, narrowed := true }
def FnMustRunUptoSaid : Prop := fnMustRunUptoRow.holds Try.pinned (OpenSpec.upto fnMustRunSpec)

/-- 'laws.FnMayRun', WHERE WHAT IT READS IS OF BULK AT MOST 1048576: true; the input reads as it did. -/
def fnMayRunUptoRow : OpenClaim := { program := "ytojffodplphlaaa", sum := "635cbfd503b34b6427a1c1d1b31ba9e0c1cba641728164991b690e7ef03bd552", func := "loop.example/signalgraph/laws.FnMayRun", spec := "fnMayRun", unfollowed := true, recurses := true, apart := false, narrowed := true }
def FnMayRunUptoSaid : Prop := fnMayRunUptoRow.holds Try.pinned (OpenSpec.upto fnMayRunSpec)

/-- 'laws.FnExactMayRun', WHERE WHAT IT READS IS OF BULK AT MOST 1048576: true; the input reads as it did. -/
def fnExactMayRunUptoRow : OpenClaim := { program := "ytojffodplphlaaa", sum := "635cbfd503b34b6427a1c1d1b31ba9e0c1cba641728164991b690e7ef03bd552", func := "loop.example/signalgraph/laws.FnExactMayRun", spec := "fnExactMayRun", unfollowed := true, recurses := true, apart := false, narrowed := true }
def FnExactMayRunUptoSaid : Prop := fnExactMayRunUptoRow.holds Try.pinned (OpenSpec.upto fnExactMayRunSpec)

/-- 'laws.FnFoldFormula', WHERE WHAT IT READS IS OF BULK AT MOST 1048576: true; the input reads as it did. -/
def fnFoldFormulaUptoRow : OpenClaim := { program := "ytojffodplphlaaa", sum := "635cbfd503b34b6427a1c1d1b31ba9e0c1cba641728164991b690e7ef03bd552", func := "loop.example/signalgraph/laws.FnFoldFormula", spec := "fnFoldFormula", unfollowed := true, recurses := true, apart := false, narrowed := true }
def FnFoldFormulaUptoSaid : Prop := fnFoldFormulaUptoRow.holds Try.pinned (OpenSpec.upto fnFoldFormulaSpec)

/-- 'laws.FnFoldGraph', WHERE WHAT IT READS IS OF BULK AT MOST 1048576: true; the input reads as it did. -/
def fnFoldGraphUptoRow : OpenClaim := { program := "ytojffodplphlaaa", sum := "635cbfd503b34b6427a1c1d1b31ba9e0c1cba641728164991b690e7ef03bd552", func := "loop.example/signalgraph/laws.FnFoldGraph", spec := "fnFoldGraph", unfollowed := true, recurses := true, apart := false, narrowed := true }
def FnFoldGraphUptoSaid : Prop := fnFoldGraphUptoRow.holds Try.pinned (OpenSpec.upto fnFoldGraphSpec)

/-- 'laws.FnExactFoldGraph', WHERE WHAT IT READS IS OF BULK AT MOST 1048576: true; the input reads as it did. -/
def fnExactFoldGraphUptoRow : OpenClaim := { program := "ytojffodplphlaaa", sum := "635cbfd503b34b6427a1c1d1b31ba9e0c1cba641728164991b690e7ef03bd552", func := "loop.example/signalgraph/laws.FnExactFoldGraph", spec := "fnExactFoldGraph", unfollowed := true, recurses := true, apart := false, narrowed := true }
def FnExactFoldGraphUptoSaid : Prop := fnExactFoldGraphUptoRow.holds Try.pinned (OpenSpec.upto fnExactFoldGraphSpec)

end Rows
end Go.Proofs.Ytojffodplphlaaa
