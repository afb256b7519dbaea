/-
  No cell of these rows narrows 'for every input' (looked for: loops, veiled, ifaces, maps, wideKeys, modest, calm, conditions, laid).
  DERIVED. THE GIVEN ROWS OF THIS SEAT. 9 by the template 'for every input the law returns true; each argument reads behind the call as it read before'; 0 by the template 'total and deterministic' (their statements: YtllepoepfkobfaaTotals.lean).
  GIVEN WITH THE SEED: the statements are not yours to turn. If you find one false, say at which input.
  Laid BY PROGRAM, IN A SANDBOX (cutbox-rows.mjs): the forced cells as the released guide's own fill.sh prints them over the translation af461a58620c8d53… (all of the seat's roots in one cut). By AI agents, Wed Nov 11 2026. No macro, syntax, notation, axiom, sorry.
-/
import Derived.Test.YtllepoepfkobfaaChecked
import GoSem.Claim
import GoSem.ClaimJoined
import GoSem.ClaimMapViews
import Derived.JoinedTies
import Derived.KernelRfl
namespace Go.Proofs.Ytllepoepfkobfaa
/- THE CELL 'sum', in the pinned program and in every row, IS THE sha256 OF THE DUMP (.gsa) THAT YtllepoepfkobfaaProg.lean LOADS. Nothing in Lean hashes anything: it is a label: what it is worth is what the hold of that sum in a sandbox is worth. -/
noncomputable def Try.pinned : Pinned := { name := "ytllepoepfkobfaa", sum := "af461a58620c8d538e9480bd49484894882c576482b0edadb9b5a093735b2065", checked := Try.checked }
namespace Rows
def none {H : Type} : Left H := { results := [], args := [] }

/-- 'laws.FnValidActs': WHATEVER THE INPUT: true; the input reads as it did. -/
def fnValidActsSpec : ChangeSpec := { name := "fnValidActs", fn := fun _ => fun
  | [d] => { results := [.lit (.bool true)], args := [d] }
  | _ => none }
def fnValidActsRow : OpenClaim := { program := "ytllepoepfkobfaa", sum := "af461a58620c8d538e9480bd49484894882c576482b0edadb9b5a093735b2065", func := "loop.example/signalgraph/laws.FnValidActs", spec := "fnValidActs", recurses := true, apart := false }
def FnValidActsSaid : Prop := fnValidActsRow.holds Try.pinned (OpenSpec.ofChange fnValidActsSpec)

/-- ITS FALSE NEIGHBOUR: 'it returns false'. Refute it at one input. -/
def fnValidActsWrong : ChangeSpec := { name := "fnValidActs", fn := fun _ => fun
  | [d] => { results := [.lit (.bool false)], args := [d] }
  | _ => none }
def FnValidActsWrongFalsely : Prop := fnValidActsRow.holds Try.pinned (OpenSpec.ofChange fnValidActsWrong)

/-- 'laws.FnExactValidActs': WHATEVER THE INPUT: true; the input reads as it did. -/
def fnExactValidActsSpec : ChangeSpec := { name := "fnExactValidActs", fn := fun _ => fun
  | [d1, d2] => { results := [.lit (.bool true)], args := [d1, d2] }
  | _ => none }
def fnExactValidActsRow : OpenClaim := { program := "ytllepoepfkobfaa", sum := "af461a58620c8d538e9480bd49484894882c576482b0edadb9b5a093735b2065", func := "loop.example/signalgraph/laws.FnExactValidActs", spec := "fnExactValidActs", recurses := true, apart := false }
def FnExactValidActsSaid : Prop := fnExactValidActsRow.holds Try.pinned (OpenSpec.ofChange fnExactValidActsSpec)

/-- ITS FALSE NEIGHBOUR: 'it returns false'. Refute it at one input. -/
def fnExactValidActsWrong : ChangeSpec := { name := "fnExactValidActs", fn := fun _ => fun
  | [d1, d2] => { results := [.lit (.bool false)], args := [d1, d2] }
  | _ => none }
def FnExactValidActsWrongFalsely : Prop := fnExactValidActsRow.holds Try.pinned (OpenSpec.ofChange fnExactValidActsWrong)

/-- 'laws.FnFlushesIn': WHATEVER THE INPUT: true; the input reads as it did. -/
def fnFlushesInSpec : ChangeSpec := { name := "fnFlushesIn", fn := fun _ => fun
  | [d] => { results := [.lit (.bool true)], args := [d] }
  | _ => none }
def fnFlushesInRow : OpenClaim := { program := "ytllepoepfkobfaa", sum := "af461a58620c8d538e9480bd49484894882c576482b0edadb9b5a093735b2065", func := "loop.example/signalgraph/laws.FnFlushesIn", spec := "fnFlushesIn", unfollowed := true, recurses := true, apart := false }
def FnFlushesInSaid : Prop := fnFlushesInRow.holds Try.pinned (OpenSpec.ofChange fnFlushesInSpec)

/-- ITS FALSE NEIGHBOUR: 'it returns false'. Refute it at one input. -/
def fnFlushesInWrong : ChangeSpec := { name := "fnFlushesIn", fn := fun _ => fun
  | [d] => { results := [.lit (.bool false)], args := [d] }
  | _ => none }
def FnFlushesInWrongFalsely : Prop := fnFlushesInRow.holds Try.pinned (OpenSpec.ofChange fnFlushesInWrong)

/-- 'laws.FnExactFlushesIn': WHATEVER THE INPUT: true; the input reads as it did. -/
def fnExactFlushesInSpec : ChangeSpec := { name := "fnExactFlushesIn", fn := fun _ => fun
  | [d1, d2] => { results := [.lit (.bool true)], args := [d1, d2] }
  | _ => none }
def fnExactFlushesInRow : OpenClaim := { program := "ytllepoepfkobfaa", sum := "af461a58620c8d538e9480bd49484894882c576482b0edadb9b5a093735b2065", func := "loop.example/signalgraph/laws.FnExactFlushesIn", spec := "fnExactFlushesIn", unfollowed := true, recurses := true, apart := false }
def FnExactFlushesInSaid : Prop := fnExactFlushesInRow.holds Try.pinned (OpenSpec.ofChange fnExactFlushesInSpec)

/-- ITS FALSE NEIGHBOUR: 'it returns false'. Refute it at one input. -/
def fnExactFlushesInWrong : ChangeSpec := { name := "fnExactFlushesIn", fn := fun _ => fun
  | [d1, d2] => { results := [.lit (.bool false)], args := [d1, d2] }
  | _ => none }
def FnExactFlushesInWrongFalsely : Prop := fnExactFlushesInRow.holds Try.pinned (OpenSpec.ofChange fnExactFlushesInWrong)

/-- 'laws.FnCellsAfter': WHATEVER THE INPUT: true; the input reads as it did. -/
def fnCellsAfterSpec : ChangeSpec := { name := "fnCellsAfter", fn := fun _ => fun
  | [d] => { results := [.lit (.bool true)], args := [d] }
  | _ => none }
def fnCellsAfterRow : OpenClaim := { program := "ytllepoepfkobfaa", sum := "af461a58620c8d538e9480bd49484894882c576482b0edadb9b5a093735b2065", func := "loop.example/signalgraph/laws.FnCellsAfter", spec := "fnCellsAfter", unfollowed := true, recurses := true, apart := false }
def FnCellsAfterSaid : Prop := fnCellsAfterRow.holds Try.pinned (OpenSpec.ofChange fnCellsAfterSpec)

/-- ITS FALSE NEIGHBOUR: 'it returns false'. Refute it at one input. -/
def fnCellsAfterWrong : ChangeSpec := { name := "fnCellsAfter", fn := fun _ => fun
  | [d] => { results := [.lit (.bool false)], args := [d] }
  | _ => none }
def FnCellsAfterWrongFalsely : Prop := fnCellsAfterRow.holds Try.pinned (OpenSpec.ofChange fnCellsAfterWrong)

/-- 'laws.FnExactCellsAfter': WHATEVER THE INPUT: true; the input reads as it did. -/
def fnExactCellsAfterSpec : ChangeSpec := { name := "fnExactCellsAfter", fn := fun _ => fun
  | [d1, d2, d3] => { results := [.lit (.bool true)], args := [d1, d2, d3] }
  | _ => none }
def fnExactCellsAfterRow : OpenClaim := { program := "ytllepoepfkobfaa", sum := "af461a58620c8d538e9480bd49484894882c576482b0edadb9b5a093735b2065", func := "loop.example/signalgraph/laws.FnExactCellsAfter", spec := "fnExactCellsAfter", unfollowed := true, recurses := true, apart := false }
def FnExactCellsAfterSaid : Prop := fnExactCellsAfterRow.holds Try.pinned (OpenSpec.ofChange fnExactCellsAfterSpec)

/-- ITS FALSE NEIGHBOUR: 'it returns false'. Refute it at one input. -/
def fnExactCellsAfterWrong : ChangeSpec := { name := "fnExactCellsAfter", fn := fun _ => fun
  | [d1, d2, d3] => { results := [.lit (.bool false)], args := [d1, d2, d3] }
  | _ => none }
def FnExactCellsAfterWrongFalsely : Prop := fnExactCellsAfterRow.holds Try.pinned (OpenSpec.ofChange fnExactCellsAfterWrong)

/-- 'laws.FnExactBatchAll': WHATEVER THE INPUT: true; the input reads as it did. -/
def fnExactBatchAllSpec : ChangeSpec := { name := "fnExactBatchAll", fn := fun _ => fun
  | [d1, d2] => { results := [.lit (.bool true)], args := [d1, d2] }
  | _ => none }
def fnExactBatchAllRow : OpenClaim := { program := "ytllepoepfkobfaa", sum := "af461a58620c8d538e9480bd49484894882c576482b0edadb9b5a093735b2065", func := "loop.example/signalgraph/laws.FnExactBatchAll", spec := "fnExactBatchAll", recurses := true, apart := false }
def FnExactBatchAllSaid : Prop := fnExactBatchAllRow.holds Try.pinned (OpenSpec.ofChange fnExactBatchAllSpec)

/-- ITS FALSE NEIGHBOUR: 'it returns false'. Refute it at one input. -/
def fnExactBatchAllWrong : ChangeSpec := { name := "fnExactBatchAll", fn := fun _ => fun
  | [d1, d2] => { results := [.lit (.bool false)], args := [d1, d2] }
  | _ => none }
def FnExactBatchAllWrongFalsely : Prop := fnExactBatchAllRow.holds Try.pinned (OpenSpec.ofChange fnExactBatchAllWrong)

/-- 'laws.FnStartLazy': WHATEVER THE INPUT: true; the input reads as it did. -/
def fnStartLazySpec : ChangeSpec := { name := "fnStartLazy", fn := fun _ => fun
  | [d] => { results := [.lit (.bool true)], args := [d] }
  | _ => none }
def fnStartLazyRow : OpenClaim := { program := "ytllepoepfkobfaa", sum := "af461a58620c8d538e9480bd49484894882c576482b0edadb9b5a093735b2065", func := "loop.example/signalgraph/laws.FnStartLazy", spec := "fnStartLazy", unfollowed := true, recurses := true, apart := false }
def FnStartLazySaid : Prop := fnStartLazyRow.holds Try.pinned (OpenSpec.ofChange fnStartLazySpec)

/-- ITS FALSE NEIGHBOUR: 'it returns false'. Refute it at one input. -/
def fnStartLazyWrong : ChangeSpec := { name := "fnStartLazy", fn := fun _ => fun
  | [d] => { results := [.lit (.bool false)], args := [d] }
  | _ => none }
def FnStartLazyWrongFalsely : Prop := fnStartLazyRow.holds Try.pinned (OpenSpec.ofChange fnStartLazyWrong)

/-- 'laws.FnExactStartLazy': WHATEVER THE INPUT: true; the input reads as it did. -/
def fnExactStartLazySpec : ChangeSpec := { name := "fnExactStartLazy", fn := fun _ => fun
  | [d1, d2] => { results := [.lit (.bool true)], args := [d1, d2] }
  | _ => none }
def fnExactStartLazyRow : OpenClaim := { program := "ytllepoepfkobfaa", sum := "af461a58620c8d538e9480bd49484894882c576482b0edadb9b5a093735b2065", func := "loop.example/signalgraph/laws.FnExactStartLazy", spec := "fnExactStartLazy", recurses := true, apart := false }
def FnExactStartLazySaid : Prop := fnExactStartLazyRow.holds Try.pinned (OpenSpec.ofChange fnExactStartLazySpec)

/-- ITS FALSE NEIGHBOUR: 'it returns false'. Refute it at one input. -/
def fnExactStartLazyWrong : ChangeSpec := { name := "fnExactStartLazy", fn := fun _ => fun
  | [d1, d2] => { results := [.lit (.bool false)], args := [d1, d2] }
  | _ => none }
def FnExactStartLazyWrongFalsely : Prop := fnExactStartLazyRow.holds Try.pinned (OpenSpec.ofChange fnExactStartLazyWrong)

/- THE SECOND FORM. 'bulk': how many values and letters a reading holds, each counted each time it is reached (what is shared counts as often as it is met; a slice's spare places count too). A statement '..UptoSaid' is the law's where the arguments, and the package variables that the reading takes, are together of bulk at most 1048576: NARROWER than '..Said'. Prove '..Said' where nothing that the law and all that it calls make is longer than what came in: it says more and counts as full. Else prove '..UptoSaid'. A law counts once. -/
mutual
def uptoBulk {H : Type} : DataW H → Nat
  | .lit (.string bytes) => bytes.length + 1
  | .lit _ => 1
  | .nil => 1
  | .ptr d => uptoBulk d + 1
  | .slice elems spare => uptoBulkAll elems + uptoBulkAll spare + 1
  | .agg parts => uptoBulkAll parts + 1
  | .iface _ d => uptoBulk d + 1
  | .map entries => uptoBulkEntries entries + 1
  | .held _ => 1
def uptoBulkAll {H : Type} : List (DataW H) → Nat
  | [] => 0
  | d :: r => uptoBulk d + uptoBulkAll r
def uptoBulkEntries {H : Type} : List (Lit × DataW H) → Nat
  | [] => 0
  | x :: r => uptoBulkEntry x + uptoBulkEntries r
def uptoBulkEntry {H : Type} : Lit × DataW H → Nat
  | (.string bytes, d) => bytes.length + uptoBulk d + 1
  | (_, d) => uptoBulk d + 1
 end
def uptoSmall : (H : Type) → List (DataW H) → Bool := fun _ ds => decide (uptoBulkAll ds ≤ 1048576)
def OpenSpec.upto (s : _root_.Go.ChangeSpec) : _root_.Go.OpenSpec := { _root_.Go.OpenSpec.ofChange s with cond := some uptoSmall }

/-- 'laws.FnValidActs', WHERE WHAT IT READS IS OF BULK AT MOST 1048576: true; the input reads as it did. -/
def fnValidActsUptoRow : OpenClaim := { program := "ytllepoepfkobfaa", sum := "af461a58620c8d538e9480bd49484894882c576482b0edadb9b5a093735b2065", func := "loop.example/signalgraph/laws.FnValidActs", spec := "fnValidActs", recurses := true, apart := false, narrowed := true }
def FnValidActsUptoSaid : Prop := fnValidActsUptoRow.holds Try.pinned (OpenSpec.upto fnValidActsSpec)

/-- 'laws.FnExactValidActs', WHERE WHAT IT READS IS OF BULK AT MOST 1048576: true; the input reads as it did. -/
def fnExactValidActsUptoRow : OpenClaim := { program := "ytllepoepfkobfaa", sum := "af461a58620c8d538e9480bd49484894882c576482b0edadb9b5a093735b2065", func := "loop.example/signalgraph/laws.FnExactValidActs", spec := "fnExactValidActs", recurses := true, apart := false, narrowed := true }
def FnExactValidActsUptoSaid : Prop := fnExactValidActsUptoRow.holds Try.pinned (OpenSpec.upto fnExactValidActsSpec)

/-- 'laws.FnFlushesIn', WHERE WHAT IT READS IS OF BULK AT MOST 1048576: true; the input reads as it did. -/
def fnFlushesInUptoRow : OpenClaim := { program := "ytllepoepfkobfaa", sum := "af461a58620c8d538e9480bd49484894882c576482b0edadb9b5a093735b2065", func := "loop.example/signalgraph/laws.FnFlushesIn", spec := "fnFlushesIn", unfollowed := true, recurses := true, apart := false, narrowed := true }
def FnFlushesInUptoSaid : Prop := fnFlushesInUptoRow.holds Try.pinned (OpenSpec.upto fnFlushesInSpec)

/-- 'laws.FnExactFlushesIn', WHERE WHAT IT READS IS OF BULK AT MOST 1048576: true; the input reads as it did. -/
def fnExactFlushesInUptoRow : OpenClaim := { program := "ytllepoepfkobfaa", sum := "af461a58620c8d538e9480bd49484894882c576482b0edadb9b5a093735b2065", func := "loop.example/signalgraph/laws.FnExactFlushesIn", spec := "fnExactFlushesIn", unfollowed := true, recurses := true, apart := false, narrowed := true }
def FnExactFlushesInUptoSaid : Prop := fnExactFlushesInUptoRow.holds Try.pinned (OpenSpec.upto fnExactFlushesInSpec)

/-- 'laws.FnCellsAfter', WHERE WHAT IT READS IS OF BULK AT MOST 1048576: true; the input reads as it did. -/
def fnCellsAfterUptoRow : OpenClaim := { program := "ytllepoepfkobfaa", sum := "af461a58620c8d538e9480bd49484894882c576482b0edadb9b5a093735b2065", func := "loop.example/signalgraph/laws.FnCellsAfter", spec := "fnCellsAfter", unfollowed := true, recurses := true, apart := false, narrowed := true }
def FnCellsAfterUptoSaid : Prop := fnCellsAfterUptoRow.holds Try.pinned (OpenSpec.upto fnCellsAfterSpec)

/-- 'laws.FnExactCellsAfter', WHERE WHAT IT READS IS OF BULK AT MOST 1048576: true; the input reads as it did. -/
def fnExactCellsAfterUptoRow : OpenClaim := { program := "ytllepoepfkobfaa", sum := "af461a58620c8d538e9480bd49484894882c576482b0edadb9b5a093735b2065", func := "loop.example/signalgraph/laws.FnExactCellsAfter", spec := "fnExactCellsAfter", unfollowed := true, recurses := true, apart := false, narrowed := true }
def FnExactCellsAfterUptoSaid : Prop := fnExactCellsAfterUptoRow.holds Try.pinned (OpenSpec.upto fnExactCellsAfterSpec)

/-- 'laws.FnExactBatchAll', WHERE WHAT IT READS IS OF BULK AT MOST 1048576: true; the input reads as it did. -/
def fnExactBatchAllUptoRow : OpenClaim := { program := "ytllepoepfkobfaa", sum := "af461a58620c8d538e9480bd49484894882c576482b0edadb9b5a093735b2065", func := "loop.example/signalgraph/laws.FnExactBatchAll", spec := "fnExactBatchAll", recurses := true, apart := false, narrowed := true }
def FnExactBatchAllUptoSaid : Prop := fnExactBatchAllUptoRow.holds Try.pinned (OpenSpec.upto fnExactBatchAllSpec)

/-- 'laws.FnStartLazy', WHERE WHAT IT READS IS OF BULK AT MOST 1048576: true; the input reads as it did. -/
def fnStartLazyUptoRow : OpenClaim := { program := "ytllepoepfkobfaa", sum := "af461a58620c8d538e9480bd49484894882c576482b0edadb9b5a093735b2065", func := "loop.example/signalgraph/laws.FnStartLazy", spec := "fnStartLazy", unfollowed := true, recurses := true, apart := false, narrowed := true }
def FnStartLazyUptoSaid : Prop := fnStartLazyUptoRow.holds Try.pinned (OpenSpec.upto fnStartLazySpec)

/-- 'laws.FnExactStartLazy', WHERE WHAT IT READS IS OF BULK AT MOST 1048576: true; the input reads as it did. -/
def fnExactStartLazyUptoRow : OpenClaim := { program := "ytllepoepfkobfaa", sum := "af461a58620c8d538e9480bd49484894882c576482b0edadb9b5a093735b2065", func := "loop.example/signalgraph/laws.FnExactStartLazy", spec := "fnExactStartLazy", recurses := true, apart := false, narrowed := true }
def FnExactStartLazyUptoSaid : Prop := fnExactStartLazyUptoRow.holds Try.pinned (OpenSpec.upto fnExactStartLazySpec)

end Rows
end Go.Proofs.Ytllepoepfkobfaa
