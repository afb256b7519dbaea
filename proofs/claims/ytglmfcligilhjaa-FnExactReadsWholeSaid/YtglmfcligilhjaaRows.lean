/-
  No cell of these rows narrows 'for every input' (looked for: loops, veiled, ifaces, maps, wideKeys, modest, calm, conditions, laid).
  DERIVED. THE GIVEN ROWS OF THIS SEAT. 8 by the template 'for every input the law returns true; each argument reads behind the call as it read before'; 0 by the template 'total and deterministic' (their statements: YtglmfcligilhjaaTotals.lean).
  GIVEN WITH THE SEED: the statements are not yours to turn. If you find one false, say at which input.
  Laid BY PROGRAM, IN A SANDBOX (cutbox-rows.mjs): the forced cells as the released guide's own fill.sh prints them over the translation 8f4e2a79058788e6… (all of the seat's roots in one cut). By AI agents, Wed Nov 11 2026. No macro, syntax, notation, axiom, sorry.
-/
import Derived.Test.YtglmfcligilhjaaChecked
import GoSem.Claim
import GoSem.ClaimJoined
import GoSem.ClaimMapViews
import Derived.JoinedTies
import Derived.KernelRfl
namespace Go.Proofs.Ytglmfcligilhjaa
/- THE CELL 'sum', in the pinned program and in every row, IS THE sha256 OF THE DUMP (.gsa) THAT YtglmfcligilhjaaProg.lean LOADS. Nothing in Lean hashes anything: it is a label: what it is worth is what the hold of that sum in a sandbox is worth. -/
noncomputable def Try.pinned : Pinned := { name := "ytglmfcligilhjaa", sum := "8f4e2a79058788e662f1e6e62b206f5c621f58a8801aff05dbf1c97849825fb3", checked := Try.checked }
namespace Rows
def none {H : Type} : Left H := { results := [], args := [] }

/-- 'laws.FnRenameReads': WHATEVER THE INPUT: true; the input reads as it did. -/
def fnRenameReadsSpec : ChangeSpec := { name := "fnRenameReads", fn := fun _ => fun
  | [d] => { results := [.lit (.bool true)], args := [d] }
  | _ => none }
def fnRenameReadsRow : OpenClaim := { program := "ytglmfcligilhjaa", sum := "8f4e2a79058788e662f1e6e62b206f5c621f58a8801aff05dbf1c97849825fb3", func := "loop.example/signalgraph/laws.FnRenameReads", spec := "fnRenameReads", unfollowed := true, recurses := true, apart := false }
def FnRenameReadsSaid : Prop := fnRenameReadsRow.holds Try.pinned (OpenSpec.ofChange fnRenameReadsSpec)

/-- ITS FALSE NEIGHBOUR: 'it returns false'. Refute it at one input. -/
def fnRenameReadsWrong : ChangeSpec := { name := "fnRenameReads", fn := fun _ => fun
  | [d] => { results := [.lit (.bool false)], args := [d] }
  | _ => none }
def FnRenameReadsWrongFalsely : Prop := fnRenameReadsRow.holds Try.pinned (OpenSpec.ofChange fnRenameReadsWrong)

/-- 'laws.FnOrderParts': WHATEVER THE INPUT: true; the input reads as it did. -/
def fnOrderPartsSpec : ChangeSpec := { name := "fnOrderParts", fn := fun _ => fun
  | [d] => { results := [.lit (.bool true)], args := [d] }
  | _ => none }
def fnOrderPartsRow : OpenClaim := { program := "ytglmfcligilhjaa", sum := "8f4e2a79058788e662f1e6e62b206f5c621f58a8801aff05dbf1c97849825fb3", func := "loop.example/signalgraph/laws.FnOrderParts", spec := "fnOrderParts", unfollowed := true, recurses := true, apart := false }
def FnOrderPartsSaid : Prop := fnOrderPartsRow.holds Try.pinned (OpenSpec.ofChange fnOrderPartsSpec)

/-- ITS FALSE NEIGHBOUR: 'it returns false'. Refute it at one input. -/
def fnOrderPartsWrong : ChangeSpec := { name := "fnOrderParts", fn := fun _ => fun
  | [d] => { results := [.lit (.bool false)], args := [d] }
  | _ => none }
def FnOrderPartsWrongFalsely : Prop := fnOrderPartsRow.holds Try.pinned (OpenSpec.ofChange fnOrderPartsWrong)

/-- 'laws.FnExactValueOf': WHATEVER THE INPUT: true; the input reads as it did. -/
def fnExactValueOfSpec : ChangeSpec := { name := "fnExactValueOf", fn := fun _ => fun
  | [d1, d2] => { results := [.lit (.bool true)], args := [d1, d2] }
  | _ => none }
def fnExactValueOfRow : OpenClaim := { program := "ytglmfcligilhjaa", sum := "8f4e2a79058788e662f1e6e62b206f5c621f58a8801aff05dbf1c97849825fb3", func := "loop.example/signalgraph/laws.FnExactValueOf", spec := "fnExactValueOf", unfollowed := true, recurses := true, apart := false }
def FnExactValueOfSaid : Prop := fnExactValueOfRow.holds Try.pinned (OpenSpec.ofChange fnExactValueOfSpec)

/-- ITS FALSE NEIGHBOUR: 'it returns false'. Refute it at one input. -/
def fnExactValueOfWrong : ChangeSpec := { name := "fnExactValueOf", fn := fun _ => fun
  | [d1, d2] => { results := [.lit (.bool false)], args := [d1, d2] }
  | _ => none }
def FnExactValueOfWrongFalsely : Prop := fnExactValueOfRow.holds Try.pinned (OpenSpec.ofChange fnExactValueOfWrong)

/-- 'laws.FnExactReadsWhole': WHATEVER THE INPUT: true; the input reads as it did. -/
def fnExactReadsWholeSpec : ChangeSpec := { name := "fnExactReadsWhole", fn := fun _ => fun
  | [d1, d2] => { results := [.lit (.bool true)], args := [d1, d2] }
  | _ => none }
def fnExactReadsWholeRow : OpenClaim := { program := "ytglmfcligilhjaa", sum := "8f4e2a79058788e662f1e6e62b206f5c621f58a8801aff05dbf1c97849825fb3", func := "loop.example/signalgraph/laws.FnExactReadsWhole", spec := "fnExactReadsWhole", unfollowed := true, recurses := true, apart := false }
def FnExactReadsWholeSaid : Prop := fnExactReadsWholeRow.holds Try.pinned (OpenSpec.ofChange fnExactReadsWholeSpec)

/-- ITS FALSE NEIGHBOUR: 'it returns false'. Refute it at one input. -/
def fnExactReadsWholeWrong : ChangeSpec := { name := "fnExactReadsWhole", fn := fun _ => fun
  | [d1, d2] => { results := [.lit (.bool false)], args := [d1, d2] }
  | _ => none }
def FnExactReadsWholeWrongFalsely : Prop := fnExactReadsWholeRow.holds Try.pinned (OpenSpec.ofChange fnExactReadsWholeWrong)

/-- 'laws.FnReadsWhole': WHATEVER THE INPUT: true; the input reads as it did. -/
def fnReadsWholeSpec : ChangeSpec := { name := "fnReadsWhole", fn := fun _ => fun
  | [d] => { results := [.lit (.bool true)], args := [d] }
  | _ => none }
def fnReadsWholeRow : OpenClaim := { program := "ytglmfcligilhjaa", sum := "8f4e2a79058788e662f1e6e62b206f5c621f58a8801aff05dbf1c97849825fb3", func := "loop.example/signalgraph/laws.FnReadsWhole", spec := "fnReadsWhole", unfollowed := true, recurses := true, apart := false }
def FnReadsWholeSaid : Prop := fnReadsWholeRow.holds Try.pinned (OpenSpec.ofChange fnReadsWholeSpec)

/-- ITS FALSE NEIGHBOUR: 'it returns false'. Refute it at one input. -/
def fnReadsWholeWrong : ChangeSpec := { name := "fnReadsWhole", fn := fun _ => fun
  | [d] => { results := [.lit (.bool false)], args := [d] }
  | _ => none }
def FnReadsWholeWrongFalsely : Prop := fnReadsWholeRow.holds Try.pinned (OpenSpec.ofChange fnReadsWholeWrong)

/-- 'laws.FnValueOf': WHATEVER THE INPUT: true; the input reads as it did. -/
def fnValueOfSpec : ChangeSpec := { name := "fnValueOf", fn := fun _ => fun
  | [d] => { results := [.lit (.bool true)], args := [d] }
  | _ => none }
def fnValueOfRow : OpenClaim := { program := "ytglmfcligilhjaa", sum := "8f4e2a79058788e662f1e6e62b206f5c621f58a8801aff05dbf1c97849825fb3", func := "loop.example/signalgraph/laws.FnValueOf", spec := "fnValueOf", unfollowed := true, recurses := true, apart := false }
def FnValueOfSaid : Prop := fnValueOfRow.holds Try.pinned (OpenSpec.ofChange fnValueOfSpec)

/-- ITS FALSE NEIGHBOUR: 'it returns false'. Refute it at one input. -/
def fnValueOfWrong : ChangeSpec := { name := "fnValueOf", fn := fun _ => fun
  | [d] => { results := [.lit (.bool false)], args := [d] }
  | _ => none }
def FnValueOfWrongFalsely : Prop := fnValueOfRow.holds Try.pinned (OpenSpec.ofChange fnValueOfWrong)

/-- 'laws.FnExactReadsOf': WHATEVER THE INPUT: true; the input reads as it did. -/
def fnExactReadsOfSpec : ChangeSpec := { name := "fnExactReadsOf", fn := fun _ => fun
  | [d1, d2] => { results := [.lit (.bool true)], args := [d1, d2] }
  | _ => none }
def fnExactReadsOfRow : OpenClaim := { program := "ytglmfcligilhjaa", sum := "8f4e2a79058788e662f1e6e62b206f5c621f58a8801aff05dbf1c97849825fb3", func := "loop.example/signalgraph/laws.FnExactReadsOf", spec := "fnExactReadsOf", unfollowed := true, recurses := true, apart := false }
def FnExactReadsOfSaid : Prop := fnExactReadsOfRow.holds Try.pinned (OpenSpec.ofChange fnExactReadsOfSpec)

/-- ITS FALSE NEIGHBOUR: 'it returns false'. Refute it at one input. -/
def fnExactReadsOfWrong : ChangeSpec := { name := "fnExactReadsOf", fn := fun _ => fun
  | [d1, d2] => { results := [.lit (.bool false)], args := [d1, d2] }
  | _ => none }
def FnExactReadsOfWrongFalsely : Prop := fnExactReadsOfRow.holds Try.pinned (OpenSpec.ofChange fnExactReadsOfWrong)

/-- 'laws.FnReadsOf': WHATEVER THE INPUT: true; the input reads as it did. -/
def fnReadsOfSpec : ChangeSpec := { name := "fnReadsOf", fn := fun _ => fun
  | [d] => { results := [.lit (.bool true)], args := [d] }
  | _ => none }
def fnReadsOfRow : OpenClaim := { program := "ytglmfcligilhjaa", sum := "8f4e2a79058788e662f1e6e62b206f5c621f58a8801aff05dbf1c97849825fb3", func := "loop.example/signalgraph/laws.FnReadsOf", spec := "fnReadsOf", unfollowed := true, recurses := true, apart := false }
def FnReadsOfSaid : Prop := fnReadsOfRow.holds Try.pinned (OpenSpec.ofChange fnReadsOfSpec)

/-- ITS FALSE NEIGHBOUR: 'it returns false'. Refute it at one input. -/
def fnReadsOfWrong : ChangeSpec := { name := "fnReadsOf", fn := fun _ => fun
  | [d] => { results := [.lit (.bool false)], args := [d] }
  | _ => none }
def FnReadsOfWrongFalsely : Prop := fnReadsOfRow.holds Try.pinned (OpenSpec.ofChange fnReadsOfWrong)

/- THE SECOND FORM. 'bulk': how many values and letters a reading holds, each counted each time it is reached (what is shared counts as often as it is met; a slice's spare places count too). A statement '..UptoSaid' is the law's where the arguments, and the package variables that the reading takes, are together of bulk at most 1048576: NARROWER than '..Said'. Prove '..Said' where nothing that the law and all that it calls make is longer than what came in: it says more and counts as full. Else prove '..UptoSaid'. A law counts once. -/
mutual
def uptoBulk {H : Type} : DataW H → Nat
  | .lit (.string bytes) => bytes.length + 1
  | .lit _ => 1
  | .nil => 1
  | .ptr d => uptoBulk d + 1
  | .slice elems spare => uptoBulkAll elems + uptoBulkAll spare + 1
  | .agg parts => uptoBulkAll parts + 1
  | .iface _ d => uptoBulk d + 1
  | .map entries => uptoBulkEntries entries + 1
  | .held _ => 1
def uptoBulkAll {H : Type} : List (DataW H) → Nat
  | [] => 0
  | d :: r => uptoBulk d + uptoBulkAll r
def uptoBulkEntries {H : Type} : List (Lit × DataW H) → Nat
  | [] => 0
  | x :: r => uptoBulkEntry x + uptoBulkEntries r
def uptoBulkEntry {H : Type} : Lit × DataW H → Nat
  | (.string bytes, d) => bytes.length + uptoBulk d + 1
  | (_, d) => uptoBulk d + 1
 end
def uptoSmall : (H : Type) → List (DataW H) → Bool := fun _ ds => decide (uptoBulkAll ds ≤ 1048576)
def OpenSpec.upto (s : _root_.Go.ChangeSpec) : _root_.Go.OpenSpec := { _root_.Go.OpenSpec.ofChange s with cond := some uptoSmall }

/-- 'laws.FnRenameReads', WHERE WHAT IT READS IS OF BULK AT MOST 1048576: true; the input reads as it did. -/
def fnRenameReadsUptoRow : OpenClaim := { program := "ytglmfcligilhjaa", sum := "8f4e2a79058788e662f1e6e62b206f5c621f58a8801aff05dbf1c97849825fb3", func := "loop.example/signalgraph/laws.FnRenameReads", spec := "fnRenameReads", unfollowed := true, recurses := true, apart := false, narrowed := true }
def FnRenameReadsUptoSaid : Prop := fnRenameReadsUptoRow.holds Try.pinned (OpenSpec.upto fnRenameReadsSpec)

/-- 'laws.FnOrderParts', WHERE WHAT IT READS IS OF BULK AT MOST 1048576: true; the input reads as it did. -/
def fnOrderPartsUptoRow : OpenClaim := { program := "ytglmfcligilhjaa", sum := "8f4e2a79058788e662f1e6e62b206f5c621f58a8801aff05dbf1c97849825fb3", func := "loop.example/signalgraph/laws.FnOrderParts", spec := "fnOrderParts", unfollowed := true, recurses := true, apart := false, narrowed := true }
def FnOrderPartsUptoSaid : Prop := fnOrderPartsUptoRow.holds Try.pinned (OpenSpec.upto fnOrderPartsSpec)

/-- 'laws.FnExactValueOf', WHERE WHAT IT READS IS OF BULK AT MOST 1048576: true; the input reads as it did. -/
def fnExactValueOfUptoRow : OpenClaim := { program := "ytglmfcligilhjaa", sum := "8f4e2a79058788e662f1e6e62b206f5c621f58a8801aff05dbf1c97849825fb3", func := "loop.example/signalgraph/laws.FnExactValueOf", spec := "fnExactValueOf", unfollowed := true, recurses := true, apart := false, narrowed := true }
def FnExactValueOfUptoSaid : Prop := fnExactValueOfUptoRow.holds Try.pinned (OpenSpec.upto fnExactValueOfSpec)

/-- 'laws.FnExactReadsWhole', WHERE WHAT IT READS IS OF BULK AT MOST 1048576: true; the input reads as it did. -/
def fnExactReadsWholeUptoRow : OpenClaim := { program := "ytglmfcligilhjaa", sum := "8f4e2a79058788e662f1e6e62b206f5c621f58a8801aff05dbf1c97849825fb3", func := "loop.example/signalgraph/laws.FnExactReadsWhole", spec := "fnExactReadsWhole", unfollowed := true, recurses := true, apart := false, narrowed := true }
def FnExactReadsWholeUptoSaid : Prop := fnExactReadsWholeUptoRow.holds Try.pinned (OpenSpec.upto fnExactReadsWholeSpec)

/-- 'laws.FnReadsWhole', WHERE WHAT IT READS IS OF BULK AT MOST 1048576: true; the input reads as it did. -/
def fnReadsWholeUptoRow : OpenClaim := { program := "ytglmfcligilhjaa", sum := "8f4e2a79058788e662f1e6e62b206f5c621f58a8801aff05dbf1c97849825fb3", func := "loop.example/signalgraph/laws.FnReadsWhole", spec := "fnReadsWhole", unfollowed := true, recurses := true, apart := false, narrowed := true }
def FnReadsWholeUptoSaid : Prop := fnReadsWholeUptoRow.holds Try.pinned (OpenSpec.upto fnReadsWholeSpec)

/-- 'laws.FnValueOf', WHERE WHAT IT READS IS OF BULK AT MOST 1048576: true; the input reads as it did. -/
def fnValueOfUptoRow : OpenClaim := { program := "ytglmfcligilhjaa", sum := "8f4e2a79058788e662f1e6e62b206f5c621f58a8801aff05dbf1c97849825fb3", func := "loop.example/signalgraph/laws.FnValueOf", spec := "fnValueOf", unfollowed := true, recurses := true, apart := false, narrowed := true }
def FnValueOfUptoSaid : Prop := fnValueOfUptoRow.holds Try.pinned (OpenSpec.upto fnValueOfSpec)

/-- 'laws.FnExactReadsOf', WHERE WHAT IT READS IS OF BULK AT MOST 1048576: true; the input reads as it did. -/
def fnExactReadsOfUptoRow : OpenClaim := { program := "ytglmfcligilhjaa", sum := "8f4e2a79058788e662f1e6e62b206f5c621f58a8801aff05dbf1c97849825fb3", func := "loop.example/signalgraph/laws.FnExactReadsOf", spec := "fnExactReadsOf", unfollowed := true, recurses := true, apart := false, narrowed := true }
def FnExactReadsOfUptoSaid : Prop := fnExactReadsOfUptoRow.holds Try.pinned (OpenSpec.upto fnExactReadsOfSpec)

/-- 'laws.FnReadsOf', WHERE WHAT IT READS IS OF BULK AT MOST 1048576: true; the input reads as it did. -/
def fnReadsOfUptoRow : OpenClaim := { program := "ytglmfcligilhjaa", sum := "8f4e2a79058788e662f1e6e62b206f5c621f58a8801aff05dbf1c97849825fb3", func := "loop.example/signalgraph/laws.FnReadsOf", spec := "fnReadsOf", unfollowed := true, recurses := true, apart := false, narrowed := true }
def FnReadsOfUptoSaid : Prop := fnReadsOfUptoRow.holds Try.pinned (OpenSpec.upto fnReadsOfSpec)

end Rows
end Go.Proofs.Ytglmfcligilhjaa
