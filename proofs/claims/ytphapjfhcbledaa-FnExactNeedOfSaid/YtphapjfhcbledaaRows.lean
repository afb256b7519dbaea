/-
  No cell of these rows narrows 'for every input' (looked for: loops, veiled, ifaces, maps, wideKeys, modest, calm, conditions, laid).
  DERIVED. THE GIVEN ROWS OF THIS SEAT. 10 by the template 'for every input the law returns true; each argument reads behind the call as it read before'; 0 by the template 'total and deterministic' (their statements: YtphapjfhcbledaaTotals.lean).
  GIVEN WITH THE SEED: the statements are not yours to turn. If you find one false, say at which input.
  Laid BY PROGRAM, IN A SANDBOX (cutbox-rows.mjs): the forced cells as the released guide's own fill.sh prints them over the translation b307a8ec03292203… (all of the seat's roots in one cut). By AI agents, Wed Nov 11 2026. No macro, syntax, notation, axiom, sorry.
-/
import Derived.Test.YtphapjfhcbledaaChecked
import GoSem.Claim
import GoSem.ClaimJoined
import GoSem.ClaimMapViews
import Derived.JoinedTies
import Derived.KernelRfl
namespace Go.Proofs.Ytphapjfhcbledaa
/- THE CELL 'sum', in the pinned program and in every row, IS THE sha256 OF THE DUMP (.gsa) THAT YtphapjfhcbledaaProg.lean LOADS. Nothing in Lean hashes anything: it is a label: what it is worth is what the hold of that sum in a sandbox is worth. -/
noncomputable def Try.pinned : Pinned := { name := "ytphapjfhcbledaa", sum := "b307a8ec03292203d3d940c80582cdf166a81b3a2c094ee6552d5416aeecc13b", checked := Try.checked }
namespace Rows
def none {H : Type} : Left H := { results := [], args := [] }

/-- 'laws.FnHeightsOf': WHATEVER THE INPUT: true; the input reads as it did. -/
def fnHeightsOfSpec : ChangeSpec := { name := "fnHeightsOf", fn := fun _ => fun
  | [d] => { results := [.lit (.bool true)], args := [d] }
  | _ => none }
def fnHeightsOfRow : OpenClaim := { program := "ytphapjfhcbledaa", sum := "b307a8ec03292203d3d940c80582cdf166a81b3a2c094ee6552d5416aeecc13b", func := "loop.example/signalgraph/laws.FnHeightsOf", spec := "fnHeightsOf", unfollowed := true, recurses := true, apart := false }
def FnHeightsOfSaid : Prop := fnHeightsOfRow.holds Try.pinned (OpenSpec.ofChange fnHeightsOfSpec)

/-- ITS FALSE NEIGHBOUR: 'it returns false'. Refute it at one input. -/
def fnHeightsOfWrong : ChangeSpec := { name := "fnHeightsOf", fn := fun _ => fun
  | [d] => { results := [.lit (.bool false)], args := [d] }
  | _ => none }
def FnHeightsOfWrongFalsely : Prop := fnHeightsOfRow.holds Try.pinned (OpenSpec.ofChange fnHeightsOfWrong)

/-- 'laws.FnUsersOf': WHATEVER THE INPUT: true; the input reads as it did. -/
def fnUsersOfSpec : ChangeSpec := { name := "fnUsersOf", fn := fun _ => fun
  | [d] => { results := [.lit (.bool true)], args := [d] }
  | _ => none }
def fnUsersOfRow : OpenClaim := { program := "ytphapjfhcbledaa", sum := "b307a8ec03292203d3d940c80582cdf166a81b3a2c094ee6552d5416aeecc13b", func := "loop.example/signalgraph/laws.FnUsersOf", spec := "fnUsersOf", unfollowed := true, recurses := true, apart := false }
def FnUsersOfSaid : Prop := fnUsersOfRow.holds Try.pinned (OpenSpec.ofChange fnUsersOfSpec)

/-- ITS FALSE NEIGHBOUR: 'it returns false'. Refute it at one input. -/
def fnUsersOfWrong : ChangeSpec := { name := "fnUsersOf", fn := fun _ => fun
  | [d] => { results := [.lit (.bool false)], args := [d] }
  | _ => none }
def FnUsersOfWrongFalsely : Prop := fnUsersOfRow.holds Try.pinned (OpenSpec.ofChange fnUsersOfWrong)

/-- 'laws.FnNeedOf': WHATEVER THE INPUT: true; the input reads as it did. -/
def fnNeedOfSpec : ChangeSpec := { name := "fnNeedOf", fn := fun _ => fun
  | [d] => { results := [.lit (.bool true)], args := [d] }
  | _ => none }
def fnNeedOfRow : OpenClaim := { program := "ytphapjfhcbledaa", sum := "b307a8ec03292203d3d940c80582cdf166a81b3a2c094ee6552d5416aeecc13b", func := "loop.example/signalgraph/laws.FnNeedOf", spec := "fnNeedOf", unfollowed := true, recurses := true, apart := false }
def FnNeedOfSaid : Prop := fnNeedOfRow.holds Try.pinned (OpenSpec.ofChange fnNeedOfSpec)

/-- ITS FALSE NEIGHBOUR: 'it returns false'. Refute it at one input. -/
def fnNeedOfWrong : ChangeSpec := { name := "fnNeedOf", fn := fun _ => fun
  | [d] => { results := [.lit (.bool false)], args := [d] }
  | _ => none }
def FnNeedOfWrongFalsely : Prop := fnNeedOfRow.holds Try.pinned (OpenSpec.ofChange fnNeedOfWrong)

/-- 'laws.FnReachOf': WHATEVER THE INPUT: true; the input reads as it did. -/
def fnReachOfSpec : ChangeSpec := { name := "fnReachOf", fn := fun _ => fun
  | [d] => { results := [.lit (.bool true)], args := [d] }
  | _ => none }
def fnReachOfRow : OpenClaim := { program := "ytphapjfhcbledaa", sum := "b307a8ec03292203d3d940c80582cdf166a81b3a2c094ee6552d5416aeecc13b", func := "loop.example/signalgraph/laws.FnReachOf", spec := "fnReachOf", unfollowed := true, recurses := true, apart := false }
def FnReachOfSaid : Prop := fnReachOfRow.holds Try.pinned (OpenSpec.ofChange fnReachOfSpec)

/-- ITS FALSE NEIGHBOUR: 'it returns false'. Refute it at one input. -/
def fnReachOfWrong : ChangeSpec := { name := "fnReachOf", fn := fun _ => fun
  | [d] => { results := [.lit (.bool false)], args := [d] }
  | _ => none }
def FnReachOfWrongFalsely : Prop := fnReachOfRow.holds Try.pinned (OpenSpec.ofChange fnReachOfWrong)

/-- 'laws.FnWatchedOf': WHATEVER THE INPUT: true; the input reads as it did. -/
def fnWatchedOfSpec : ChangeSpec := { name := "fnWatchedOf", fn := fun _ => fun
  | [d] => { results := [.lit (.bool true)], args := [d] }
  | _ => none }
def fnWatchedOfRow : OpenClaim := { program := "ytphapjfhcbledaa", sum := "b307a8ec03292203d3d940c80582cdf166a81b3a2c094ee6552d5416aeecc13b", func := "loop.example/signalgraph/laws.FnWatchedOf", spec := "fnWatchedOf", unfollowed := true, recurses := true, apart := false }
def FnWatchedOfSaid : Prop := fnWatchedOfRow.holds Try.pinned (OpenSpec.ofChange fnWatchedOfSpec)

/-- ITS FALSE NEIGHBOUR: 'it returns false'. Refute it at one input. -/
def fnWatchedOfWrong : ChangeSpec := { name := "fnWatchedOf", fn := fun _ => fun
  | [d] => { results := [.lit (.bool false)], args := [d] }
  | _ => none }
def FnWatchedOfWrongFalsely : Prop := fnWatchedOfRow.holds Try.pinned (OpenSpec.ofChange fnWatchedOfWrong)

/-- 'laws.FnExactHeightsOf': WHATEVER THE INPUT: true; the input reads as it did. -/
def fnExactHeightsOfSpec : ChangeSpec := { name := "fnExactHeightsOf", fn := fun _ => fun
  | [d] => { results := [.lit (.bool true)], args := [d] }
  | _ => none }
def fnExactHeightsOfRow : OpenClaim := { program := "ytphapjfhcbledaa", sum := "b307a8ec03292203d3d940c80582cdf166a81b3a2c094ee6552d5416aeecc13b", func := "loop.example/signalgraph/laws.FnExactHeightsOf", spec := "fnExactHeightsOf", recurses := true, apart := false }
def FnExactHeightsOfSaid : Prop := fnExactHeightsOfRow.holds Try.pinned (OpenSpec.ofChange fnExactHeightsOfSpec)

/-- ITS FALSE NEIGHBOUR: 'it returns false'. Refute it at one input. -/
def fnExactHeightsOfWrong : ChangeSpec := { name := "fnExactHeightsOf", fn := fun _ => fun
  | [d] => { results := [.lit (.bool false)], args := [d] }
  | _ => none }
def FnExactHeightsOfWrongFalsely : Prop := fnExactHeightsOfRow.holds Try.pinned (OpenSpec.ofChange fnExactHeightsOfWrong)

/-- 'laws.FnExactUsersOf': WHATEVER THE INPUT: true; the input reads as it did. -/
def fnExactUsersOfSpec : ChangeSpec := { name := "fnExactUsersOf", fn := fun _ => fun
  | [d1, d2] => { results := [.lit (.bool true)], args := [d1, d2] }
  | _ => none }
def fnExactUsersOfRow : OpenClaim := { program := "ytphapjfhcbledaa", sum := "b307a8ec03292203d3d940c80582cdf166a81b3a2c094ee6552d5416aeecc13b", func := "loop.example/signalgraph/laws.FnExactUsersOf", spec := "fnExactUsersOf", unfollowed := true, recurses := true, apart := false }
def FnExactUsersOfSaid : Prop := fnExactUsersOfRow.holds Try.pinned (OpenSpec.ofChange fnExactUsersOfSpec)

/-- ITS FALSE NEIGHBOUR: 'it returns false'. Refute it at one input. -/
def fnExactUsersOfWrong : ChangeSpec := { name := "fnExactUsersOf", fn := fun _ => fun
  | [d1, d2] => { results := [.lit (.bool false)], args := [d1, d2] }
  | _ => none }
def FnExactUsersOfWrongFalsely : Prop := fnExactUsersOfRow.holds Try.pinned (OpenSpec.ofChange fnExactUsersOfWrong)

/-- 'laws.FnExactReachOf': WHATEVER THE INPUT: true; the input reads as it did. -/
def fnExactReachOfSpec : ChangeSpec := { name := "fnExactReachOf", fn := fun _ => fun
  | [d1, d2] => { results := [.lit (.bool true)], args := [d1, d2] }
  | _ => none }
def fnExactReachOfRow : OpenClaim := { program := "ytphapjfhcbledaa", sum := "b307a8ec03292203d3d940c80582cdf166a81b3a2c094ee6552d5416aeecc13b", func := "loop.example/signalgraph/laws.FnExactReachOf", spec := "fnExactReachOf", unfollowed := true, recurses := true, apart := false }
def FnExactReachOfSaid : Prop := fnExactReachOfRow.holds Try.pinned (OpenSpec.ofChange fnExactReachOfSpec)

/-- ITS FALSE NEIGHBOUR: 'it returns false'. Refute it at one input. -/
def fnExactReachOfWrong : ChangeSpec := { name := "fnExactReachOf", fn := fun _ => fun
  | [d1, d2] => { results := [.lit (.bool false)], args := [d1, d2] }
  | _ => none }
def FnExactReachOfWrongFalsely : Prop := fnExactReachOfRow.holds Try.pinned (OpenSpec.ofChange fnExactReachOfWrong)

/-- 'laws.FnExactNeedOf': WHATEVER THE INPUT: true; the input reads as it did. -/
def fnExactNeedOfSpec : ChangeSpec := { name := "fnExactNeedOf", fn := fun _ => fun
  | [d1, d2] => { results := [.lit (.bool true)], args := [d1, d2] }
  | _ => none }
def fnExactNeedOfRow : OpenClaim := { program := "ytphapjfhcbledaa", sum := "b307a8ec03292203d3d940c80582cdf166a81b3a2c094ee6552d5416aeecc13b", func := "loop.example/signalgraph/laws.FnExactNeedOf", spec := "fnExactNeedOf", unfollowed := true, recurses := true, apart := false }
def FnExactNeedOfSaid : Prop := fnExactNeedOfRow.holds Try.pinned (OpenSpec.ofChange fnExactNeedOfSpec)

/-- ITS FALSE NEIGHBOUR: 'it returns false'. Refute it at one input. -/
def fnExactNeedOfWrong : ChangeSpec := { name := "fnExactNeedOf", fn := fun _ => fun
  | [d1, d2] => { results := [.lit (.bool false)], args := [d1, d2] }
  | _ => none }
def FnExactNeedOfWrongFalsely : Prop := fnExactNeedOfRow.holds Try.pinned (OpenSpec.ofChange fnExactNeedOfWrong)

/-- 'laws.FnExactWatchedOf': WHATEVER THE INPUT: true; the input reads as it did. -/
def fnExactWatchedOfSpec : ChangeSpec := { name := "fnExactWatchedOf", fn := fun _ => fun
  | [d] => { results := [.lit (.bool true)], args := [d] }
  | _ => none }
def fnExactWatchedOfRow : OpenClaim := { program := "ytphapjfhcbledaa", sum := "b307a8ec03292203d3d940c80582cdf166a81b3a2c094ee6552d5416aeecc13b", func := "loop.example/signalgraph/laws.FnExactWatchedOf", spec := "fnExactWatchedOf", unfollowed := true, recurses := true, apart := false }
def FnExactWatchedOfSaid : Prop := fnExactWatchedOfRow.holds Try.pinned (OpenSpec.ofChange fnExactWatchedOfSpec)

/-- ITS FALSE NEIGHBOUR: 'it returns false'. Refute it at one input. -/
def fnExactWatchedOfWrong : ChangeSpec := { name := "fnExactWatchedOf", fn := fun _ => fun
  | [d] => { results := [.lit (.bool false)], args := [d] }
  | _ => none }
def FnExactWatchedOfWrongFalsely : Prop := fnExactWatchedOfRow.holds Try.pinned (OpenSpec.ofChange fnExactWatchedOfWrong)

/- THE SECOND FORM. 'bulk': how many values and letters a reading holds, each counted each time it is reached (what is shared counts as often as it is met; a slice's spare places count too). A statement '..UptoSaid' is the law's where the arguments, and the package variables that the reading takes, are together of bulk at most 1048576: NARROWER than '..Said'. Prove '..Said' where nothing that the law and all that it calls make is longer than what came in: it says more and counts as full. Else prove '..UptoSaid'. A law counts once. -/
mutual
def uptoBulk {H : Type} : DataW H → Nat
  | .lit (.string bytes) => bytes.length + 1
  | .lit _ => 1
  | .nil => 1
  | .ptr d => uptoBulk d + 1
  | .slice elems spare => uptoBulkAll elems + uptoBulkAll spare + 1
  | .agg parts => uptoBulkAll parts + 1
  | .iface _ d => uptoBulk d + 1
  | .map entries => uptoBulkEntries entries + 1
  | .held _ => 1
def uptoBulkAll {H : Type} : List (DataW H) → Nat
  | [] => 0
  | d :: r => uptoBulk d + uptoBulkAll r
def uptoBulkEntries {H : Type} : List (Lit × DataW H) → Nat
  | [] => 0
  | x :: r => uptoBulkEntry x + uptoBulkEntries r
def uptoBulkEntry {H : Type} : Lit × DataW H → Nat
  | (.string bytes, d) => bytes.length + uptoBulk d + 1
  | (_, d) => uptoBulk d + 1
 end
def uptoSmall : (H : Type) → List (DataW H) → Bool := fun _ ds => decide (uptoBulkAll ds ≤ 1048576)
def OpenSpec.upto (s : _root_.Go.ChangeSpec) : _root_.Go.OpenSpec := { _root_.Go.OpenSpec.ofChange s with cond := some uptoSmall }

/-- 'laws.FnHeightsOf', WHERE WHAT IT READS IS OF BULK AT MOST 1048576: true; the input reads as it did. -/
def fnHeightsOfUptoRow : OpenClaim := { program := "ytphapjfhcbledaa", sum := "b307a8ec03292203d3d940c80582cdf166a81b3a2c094ee6552d5416aeecc13b", func := "loop.example/signalgraph/laws.FnHeightsOf", spec := "fnHeightsOf", unfollowed := true, recurses := true, apart := false, narrowed := true }
def FnHeightsOfUptoSaid : Prop := fnHeightsOfUptoRow.holds Try.pinned (OpenSpec.upto fnHeightsOfSpec)

/-- 'laws.FnUsersOf', WHERE WHAT IT READS IS OF BULK AT MOST 1048576: true; the input reads as it did. -/
def fnUsersOfUptoRow : OpenClaim := { program := "ytphapjfhcbledaa", sum := "b307a8ec03292203d3d940c80582cdf166a81b3a2c094ee6552d5416aeecc13b", func := "loop.example/signalgraph/laws.FnUsersOf", spec := "fnUsersOf", unfollowed := true, recurses := true, apart := false, narrowed := true }
def FnUsersOfUptoSaid : Prop := fnUsersOfUptoRow.holds Try.pinned (OpenSpec.upto fnUsersOfSpec)

/-- 'laws.FnNeedOf', WHERE WHAT IT READS IS OF BULK AT MOST 1048576: true; the input reads as it did. -/
def fnNeedOfUptoRow : OpenClaim := { program := "ytphapjfhcbledaa", sum := "b307a8ec03292203d3d940c80582cdf166a81b3a2c094ee6552d5416aeecc13b", func := "loop.example/signalgraph/laws.FnNeedOf", spec := "fnNeedOf", unfollowed := true, recurses := true, apart := false, narrowed := true }
def FnNeedOfUptoSaid : Prop := fnNeedOfUptoRow.holds Try.pinned (OpenSpec.upto fnNeedOfSpec)

/-- 'laws.FnReachOf', WHERE WHAT IT READS IS OF BULK AT MOST 1048576: true; the input reads as it did. -/
def fnReachOfUptoRow : OpenClaim := { program := "ytphapjfhcbledaa", sum := "b307a8ec03292203d3d940c80582cdf166a81b3a2c094ee6552d5416aeecc13b", func := "loop.example/signalgraph/laws.FnReachOf", spec := "fnReachOf", unfollowed := true, recurses := true, apart := false, narrowed := true }
def FnReachOfUptoSaid : Prop := fnReachOfUptoRow.holds Try.pinned (OpenSpec.upto fnReachOfSpec)

/-- 'laws.FnWatchedOf', WHERE WHAT IT READS IS OF BULK AT MOST 1048576: true; the input reads as it did. -/
def fnWatchedOfUptoRow : OpenClaim := { program := "ytphapjfhcbledaa", sum := "b307a8ec03292203d3d940c80582cdf166a81b3a2c094ee6552d5416aeecc13b", func := "loop.example/signalgraph/laws.FnWatchedOf", spec := "fnWatchedOf", unfollowed := true, recurses := true, apart := false, narrowed := true }
def FnWatchedOfUptoSaid : Prop := fnWatchedOfUptoRow.holds Try.pinned (OpenSpec.upto fnWatchedOfSpec)

/-- 'laws.FnExactHeightsOf', WHERE WHAT IT READS IS OF BULK AT MOST 1048576: true; the input reads as it did. -/
def fnExactHeightsOfUptoRow : OpenClaim := { program := "ytphapjfhcbledaa", sum := "b307a8ec03292203d3d940c80582cdf166a81b3a2c094ee6552d5416aeecc13b", func := "loop.example/signalgraph/laws.FnExactHeightsOf", spec := "fnExactHeightsOf", recurses := true, apart := false, narrowed := true }
def FnExactHeightsOfUptoSaid : Prop := fnExactHeightsOfUptoRow.holds Try.pinned (OpenSpec.upto fnExactHeightsOfSpec)

/-- 'laws.FnExactUsersOf', WHERE WHAT IT READS IS OF BULK AT MOST 1048576: true; the input reads as it did. -/
def fnExactUsersOfUptoRow : OpenClaim := { program := "ytphapjfhcbledaa", sum := "b307a8ec03292203d3d940c80582cdf166a81b3a2c094ee6552d5416aeecc13b", func := "loop.example/signalgraph/laws.FnExactUsersOf", spec := "fnExactUsersOf", unfollowed := true, recurses := true, apart := false, narrowed := true }
def FnExactUsersOfUptoSaid : Prop := fnExactUsersOfUptoRow.holds Try.pinned (OpenSpec.upto fnExactUsersOfSpec)

/-- 'laws.FnExactReachOf', WHERE WHAT IT READS IS OF BULK AT MOST 1048576: true; the input reads as it did. -/
def fnExactReachOfUptoRow : OpenClaim := { program := "ytphapjfhcbledaa", sum := "b307a8ec03292203d3d940c80582cdf166a81b3a2c094ee6552d5416aeecc13b", func := "loop.example/signalgraph/laws.FnExactReachOf", spec := "fnExactReachOf", unfollowed := true, recurses := true, apart := false, narrowed := true }
def FnExactReachOfUptoSaid : Prop := fnExactReachOfUptoRow.holds Try.pinned (OpenSpec.upto fnExactReachOfSpec)

/-- 'laws.FnExactNeedOf', WHERE WHAT IT READS IS OF BULK AT MOST 1048576: true; the input reads as it did. -/
def fnExactNeedOfUptoRow : OpenClaim := { program := "ytphapjfhcbledaa", sum := "b307a8ec03292203d3d940c80582cdf166a81b3a2c094ee6552d5416aeecc13b", func := "loop.example/signalgraph/laws.FnExactNeedOf", spec := "fnExactNeedOf", unfollowed := true, recurses := true, apart := false, narrowed := true }
def FnExactNeedOfUptoSaid : Prop := fnExactNeedOfUptoRow.holds Try.pinned (OpenSpec.upto fnExactNeedOfSpec)

/-- 'laws.FnExactWatchedOf', WHERE WHAT IT READS IS OF BULK AT MOST 1048576: true; the input reads as it did. -/
def fnExactWatchedOfUptoRow : OpenClaim := { program := "ytphapjfhcbledaa", sum := "b307a8ec03292203d3d940c80582cdf166a81b3a2c094ee6552d5416aeecc13b", func := "loop.example/signalgraph/laws.FnExactWatchedOf", spec := "fnExactWatchedOf", unfollowed := true, recurses := true, apart := false, narrowed := true }
def FnExactWatchedOfUptoSaid : Prop := fnExactWatchedOfUptoRow.holds Try.pinned (OpenSpec.upto fnExactWatchedOfSpec)

end Rows
end Go.Proofs.Ytphapjfhcbledaa
