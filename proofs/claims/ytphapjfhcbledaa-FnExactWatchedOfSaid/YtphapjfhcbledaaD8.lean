/- Contracts: values for cells. -/
import Derived.Test.YtphapjfhcbledaaD3
import Derived.Test.YtphapjfhcbledaaD4
namespace SG
open Go Go.RowKit Go.Proofs
set_option linter.unusedVariables false
set_option linter.unusedSimpArgs false
set_option maxRecDepth 100000
theorem size_spec (w0 : World) (L : List Asn) (A : Option Addr) (n c : Nat) : Tr Try.prog 44 #[.agg #[.slice A n c]] w0 L (fun v L' => v = .int .i64 n ∧ L' = L) := by
  refine Tr.enter (args := [.agg #[.slice A n c]]) Try.func44 Try.ntmps44 rfl rfl ?_
  refine GC.seq ?_
  refine GC.region ?_
  refine GL.box_agg rfl rfl ?_; intro g1
  refine GL.v Wag ?_
  refine GL.nil ?_
  refine GE.seq ?_
  refine GC.seq ?_
  refine GC.region ?_
  refine GL.v Wfa ?_
  refine GL.v Wlb ?_
  refine GL.v Wln ?_
  refine GL.v Wag ?_
  refine GL.nil ?_
  refine GE.seq ?_
  refine GC.ret ?_
  -- returns, path 
  refine GE.ret_tmp (L' := L) (.inl rfl) rfl rfl Wsb ?_
  exact ⟨rfl, rfl⟩
theorem has_spec (w0 : World) (L : List Asn) (A : Option Addr) (n c : Nat) (k : Int) (hn : n ≤ 1100000) : Tr Try.prog 48 #[.agg #[.slice A n c], .int .i64 k] w0 L (fun v L' => v = .bool (inB k 0 ((n : Int) - 1)) ∧ L' = L) := by
  refine Tr.enter (args := [.agg #[.slice A n c], .int .i64 k]) Try.func48 Try.ntmps48 rfl rfl ?_
  refine GC.seq ?_
  refine GC.region ?_
  refine GL.box_agg rfl rfl ?_; intro g2
  refine GL.v Wag ?_
  refine GL.nil ?_
  refine GE.seq ?_
  refine GC.seq ?_
  refine GC.region ?_
  refine GL.v Wmv ?_
  refine GL.v Wfa ?_
  refine GL.v Wlb ?_
  refine GL.v Wln ?_
  refine GL.v Wsu ?_
  refine GL.callF rfl rfl (in_spec _ _ _ _ _) ?_
  refine GL.v Wag ?_
  refine GL.nil ?_
  refine GE.seq ?_
  refine GC.ret ?_
  -- returns, path 
  refine GE.ret_tmp (L' := L) (.inl rfl) rfl rfl Wsb ?_
  exact ⟨rfl, rfl⟩
theorem cellB_eq {g : List Nd} {i : Nat} (h : i < g.length) : cellB g i = decide (g[i].kind = 0) := by
  unfold cellB
  rw [kindAt_eq h, inB_iff.2 ⟨by omega, by omega⟩]
  rfl
theorem bad_cells {g : List Nd} {xs : List Int} {i : Nat} (h : i < xs.length) (h' : i < g.length) (hb : ¬ ((0 ≤ xs[i] ∧ xs[i] ≤ 999) ∧ (g[i].kind ≠ 0 → xs[i] = 0))) : cellsOkB g xs = false := cellsOkB_not.2 fun hc => hb (hc.2 i h h')
end SG
