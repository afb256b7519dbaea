/- Contracts: MayRead of both. -/
import Derived.Test.YtojffodplphlaaaDA
namespace SG
open Go Go.RowKit Go.Proofs
set_option linter.unusedVariables false
set_option linter.unusedSimpArgs false
set_option maxRecDepth 100000
theorem iMayRead_spec (w0 : World) (L : List Asn) (A : Option Addr) (c : Nat) (ps : List Part) (hR : Rd w0 L partE A c ps) :
    Tr Try.prog 57 #[.agg #[.slice A ps.length c]] w0 L (fun v L' => ∃ B d, v = .slice B (mayV ps).length d ∧ L' = row intE B d (mayV ps) :: L) := by
  refine Tr.enter (args := [.agg #[.slice A ps.length c]]) Try.func57 Try.ntmps57 rfl rfl ?_
  refine GC.seq ?_
  refine GC.region ?_
  refine GL.box_agg rfl rfl ?_; intro g1
  refine GL.v Wag ?_
  refine GL.nil ?_
  refine GE.seq ?_
  refine GC.seq ?_
  refine GC.seq ?_
  refine GC.region ?_
  refine GL.v Wlba ?_
  refine GL.callF rfl rfl (ValidFormula_spec _ _ _ _ _ Wrd) ?_
  refine GL.v Wnt ?_
  refine GL.nil ?_
  refine GE.seq ?_
  refine GC.ifs (fun h1 => ?_) (fun h1 => ?_)
  · -- T
    refine GC.seq ?_
    refine GC.region ?_
    refine GL.v Wag ?_
    refine GL.nil ?_
    refine GE.seq ?_
    refine GC.ret ?_
    refine GE.seq_ret ?_
    -- returns, path T
    refine GE.state (fun _ hs => hs.empty intE none) ?_
    refine GE.ret_tmp (L' := row intE none 0 [] :: L) (.inl rfl) rfl rfl Wsb ?_
    rw [mayV_no h1]; exact ⟨none, 0, rfl, rfl⟩
  · -- F
    have hv := validF_iff.1 h1
    have hpl := hv.2.1
    have hfit := hv.fit
    refine GC.skip ?_
    refine GE.seq ?_
    refine GC.seq ?_
    refine GC.region ?_
    refine GL.v Wlba ?_
    refine GL.call rfl rfl (mayRead_spec _ _ _ _ _ Wrd Wom (by assumption)) ?_
    rintro _ _ ⟨B7, rfl, rfl⟩
    refine GL.v Wag ?_
    refine GL.nil ?_
    refine GE.seq ?_
    refine GC.ret ?_
    -- returns, path F
    refine GE.ret_tmp (L' := row intE B7 (mayL ps).length (mayL ps) :: L) (.inl rfl) rfl rfl Wsb ?_
    rw [mayV_yes h1]; exact ⟨_, _, rfl, rfl⟩
end SG
