/- Contracts: copies of graphs; one more node; of both. -/
import Derived.Test.YtllepoepfkobfaaDA
import Derived.Test.YtllepoepfkobfaaD4
import Derived.Test.YtllepoepfkobfaaD11
import Derived.Test.YtllepoepfkobfaaD13
import Derived.Test.YtllepoepfkobfaaPB
namespace SG
open Go Go.RowKit Go.Proofs
set_option linter.unusedVariables false
set_option linter.unusedSimpArgs false
set_option maxRecDepth 100000
theorem gr_append (ms ns : List NdM) : gr (ms ++ ns) = gr ms ++ gr ns := by simp [gr]
theorem St.none_graph {w0 w : World} {L : List Asn} (h : St w0 w L) : St w0 w (row nodeE none 0 [] :: partsA [] :: L) := St.empty nodeE none h.partsA_nil
theorem GL.parts_snoc {P : Program} {Q : Exit → Act → World → Prop} {w0 : World} {N : Nat} {fs : List Kf} {F : Env} {ops : Array Oper} {l : List Oper} {L L1 L2 : List Asn} {ms : List NdM} (m : NdM) (p : Pick L m.rowA L1) (q : Pick L1 (partsA ms) L2) (h : GL P Q w0 N false fs ops l F (partsA (ms ++ [m]) :: L2)) : GL P Q w0 N false fs ops l F L :=
  GL.state (fun w hs => St.parts_snoc (St.pick (A := partsA ms) (L := m.rowA :: L1) (L' := m.rowA :: L2) (hs.pick p) (.tail q) |>.pick (.tail .head))) h
theorem SizeG.snoc {ms : List NdM} {m : NdM} (hS : SizeG ms) (hl : ms.length ≤ 1048576) (hp : m.parts.length ≤ 1100000) : SizeG (ms ++ [m]) := ⟨by simp; omega, fun i hi => by
  rw [List.getElem_append]
  split
  · exact hS.2 i _
  · simp only [List.getElem_singleton]; exact hp⟩
end SG
