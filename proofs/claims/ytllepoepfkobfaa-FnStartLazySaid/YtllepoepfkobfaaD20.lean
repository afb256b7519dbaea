/- Contracts: which nodes; heights; ways in graphs; of the program. -/
import Derived.Test.YtllepoepfkobfaaD8
import Derived.Test.YtllepoepfkobfaaD12
import Derived.Test.YtllepoepfkobfaaPB
namespace SG
open Go Go.RowKit Go.Proofs
set_option linter.unusedVariables false
set_option linter.unusedSimpArgs false
set_option maxRecDepth 100000
instance : TyOk Try.prog 79 false 1 [.nilFunc] := ⟨by kernel_rfl, by kernel_rfl⟩
/-- what a function of nodes tells, wherever the state leads to L -/
def Tells (F : FuncId) (first captured : Array Value) (w0 : World) (L : List Asn) (n : Nat) (p : Nat → Bool) : Prop :=
  ∀ X, Imp w0 X L → ∀ i, i < n → Tr Try.prog F (first ++ #[.int .i64 i] ++ captured) w0 X (fun v L' => v = .bool (p i) ∧ L' = X)
theorem which_spec (w0 : World) (L : List Asn) (A : Option Addr) (n c : Nat) (hn : n ≤ 1100000) (F : FuncId) [FnOk Try.prog F] (first captured : Array Value) (p : Nat → Bool) (hF : Tells F first captured w0 L n p) :
    Tr Try.prog 78 #[.agg #[.slice A n c], .func (.func F) first captured] w0 L (fun v L' => ∃ B, v = .slice B (whichL n p).length (whichL n p).length ∧ L' = row intE B (whichL n p).length (whichL n p) :: L) := by
  have hwl := whichL_length n p
  refine Tr.enter (args := [.agg #[.slice A n c], .func (.func F) first captured]) Try.func78 Try.ntmps78 rfl rfl ?_
  refine GC.seq ?_
  refine GC.region ?_
  refine GL.box_agg rfl rfl ?_; intro g2
  refine GL.v Wag ?_
  refine GL.nil ?_
  refine GE.seq ?_
  refine GC.seq ?_
  refine GC.region ?_
  refine GL.v Wag ?_
  refine GL.nil ?_
  refine GE.seq ?_
  refine GC.seq ?_
  refine GC.seq ?_
  refine GC.region ?_
  refine GL.v Wfa ?_
  refine GL.v Wlb ?_
  refine GL.v Wln ?_
  refine GL.v Wmv ?_
  refine GL.nil ?_
  refine GE.seq ?_
  refine GC.block ?_
  -- loop 1: carried slots [5, 10]
  refine GC.state (fun _ hs => hs.empty intE none) ?_
  refine GC.loopK (α := Nat × Option Addr × Nat) (fun x => x.1 ≤ n) (fun x => [(5, .slice x.2.1 (whichL x.1 p).length x.2.2), (10, .int .i64 x.1)]) [(1, _), (9, _)] (fun x => row intE x.2.1 x.2.2 (whichL x.1 p) :: blk g2 25 [.slice A n c] :: L) (fun x => n - x.1) (0, none, 0) Wkp Wsb (Nat.zero_le _) ?_
  rintro ⟨i, B, d⟩ hi
  dsimp only at hi ⊢
  have hil := whichL_length i p
  refine GC.seq ?_
  refine GC.region ?_
  refine GL.v Wls ?_
  refine GL.nil ?_
  refine GE.seq ?_
  refine GC.seq ?_
  refine GC.ifs (fun h1 => ?_) (fun h1 => ?_)
  · -- T
    have hin : i < n := by omega
    refine GC.skip ?_
    refine GE.seq ?_
    refine GC.seq ?_
    refine GC.block ?_
    refine GC.seq ?_
    refine GC.region ?_
    refine GL.v Wmv ?_
    refine GL.v Wag ?_
    refine GL.nil ?_
    refine GE.seq ?_
    refine GC.seq ?_
    refine GC.region ?_
    refine GL.v Wmv ?_
    refine GL.v Wmv ?_
    refine GL.callQ rfl rfl rfl (hF _ Wim i hin) ?_
    refine GL.nil ?_
    refine GE.seq ?_
    refine GC.ifs (fun h2 => ?_) (fun h2 => ?_)
    · -- TT
      refine GC.region ?_
      refine GL.v Wmv ?_
      refine GL.v Wmv ?_
      refine GL.buildSlice rfl (by first | exact bsInt0 | exact bsInt1 _ | exact bsInt2 _ _ | exact bsInt3 _ _ _ | exact bsInt4 _ _ _ _ | exact bsInt5 _ _ _ _ _ | exact bsInt6 _ _ _ _ _ _ | exact bsInt7 _ _ _ _ _ _ _ | exact bsInt8 _ _ _ _ _ _ _ _ | exact bsInt9 _ _ _ _ _ _ _ _ _ | exact bsInt10 _ _ _ _ _ _ _ _ _ _ | exact bsPart0 | exact bsPart1 ⟨_, _, _, _, _⟩ | exact bsNode1 ⟨_, _, _, _⟩ | exact bsPtr3 _ _ _ | exact bsSl0 | exact bsSl1 ⟨_, _, _⟩) rfl (by decide) rfl ?_; intro g18
      first | (refine GL.append rfl rfl Wpk (by assumption) Wim (by first | rfl | (simp; done) | (simp; omega)) (by first | rfl | (simp; done) | (simp; omega)) (by first | omega | (simp; omega)) (by first | omega | (simp; omega)) rfl ?_; intro A19 c19) | (refine GL.append rfl rfl Wpk (Rd.of_pick Wpk) Imp.refl (by first | rfl | (simp; done) | (simp; omega)) (by first | rfl | (simp; done) | (simp; omega)) (by first | omega | (simp; omega)) (by first | omega | (simp; omega)) rfl ?_; intro A19 c19)
      refine GL.v Wag ?_
      refine GL.nil ?_
      refine GE.block ?_
      refine GE.seq ?_
      refine GC.region ?_
      refine GL.v Wad ?_
      refine GL.v Wmv ?_
      refine GL.nil ?_
      -- round of loop 1, path TT
      rw [whichL_yes h2]
      refine GE.round (i + 1, _, _) (by dsimp only; omega) (by dsimp only; omega) Wkp Wsb
    · -- TF
      refine GC.skip ?_
      refine GE.block ?_
      refine GE.seq ?_
      refine GC.region ?_
      refine GL.v Wad ?_
      refine GL.v Wmv ?_
      refine GL.nil ?_
      -- round of loop 1, path TF
      rw [whichL_no h2]
      refine GE.round (i + 1, B, d) (by dsimp only; omega) (by dsimp only; omega) Wkp Wsb
  · -- F
    obtain rfl : n = i := by omega
    refine GC.exit ?_
    refine GE.seq_exit ?_
    refine GE.loop_exit ?_
    refine GE.block_exit ?_
    refine GE.seq ?_
    refine GC.seq ?_
    refine GC.region ?_
    refine GL.v Wmv ?_
    refine GL.row_cap (E := intE) (A := B) Wpk fun hc1 hc2 => ?_
    refine GL.callF rfl rfl (ClipInt_spec _ _ _ _ _ Wom) ?_
    refine GL.row_clip (E := intE) (A := B) Wpk ?_
    refine GL.v Wag ?_
    refine GL.nil ?_
    refine GE.seq ?_
    refine GC.ret ?_
    -- returns, path F
    refine GE.ret_tmp (L' := row intE B (whichL n p).length (whichL n p) :: L) (.inl rfl) rfl rfl Wsb ?_
    exact ⟨B, rfl, rfl⟩
end SG
