/- Contracts: heights, users and ways in graphs, of the reference. -/
import Derived.Test.YtllepoepfkobfaaD8
import Derived.Test.YtllepoepfkobfaaD17
import Derived.Test.YtllepoepfkobfaaPB
namespace SG
open Go Go.RowKit Go.Proofs
set_option linter.unusedVariables false
set_option linter.unusedSimpArgs false
set_option maxRecDepth 100000
theorem effects_spec (w0 : World) (L : List Asn) (A : Option Addr) (c : Nat) (ms : List NdM) (hG : RdG w0 L A c ms) (hl : ms.length ≤ 1100000) :
    Tr Try.prog 107 #[.agg #[.slice A ms.length c]] w0 L (fun v L' => ∃ B d, v = .slice B (effL (gr ms)).length d ∧ L' = row intE B d (effL (gr ms)) :: L) := by
  have hN := hG.nodes
  refine Tr.enter (args := [.agg #[.slice A ms.length c]]) Try.func107 Try.ntmps107 rfl rfl ?_
  refine GC.seq ?_
  refine GC.region ?_
  refine GL.box_agg rfl rfl ?_; intro g1
  refine GL.v Wag ?_
  refine GL.nil ?_
  refine GE.seq ?_
  refine GC.seq ?_
  refine GC.region ?_
  refine GL.buildSlice rfl (by first | exact bsInt0 | exact bsInt1 _ | exact bsInt2 _ _ | exact bsInt3 _ _ _ | exact bsInt4 _ _ _ _ | exact bsInt5 _ _ _ _ _ | exact bsInt6 _ _ _ _ _ _ | exact bsInt7 _ _ _ _ _ _ _ | exact bsInt8 _ _ _ _ _ _ _ _ | exact bsInt9 _ _ _ _ _ _ _ _ _ | exact bsInt10 _ _ _ _ _ _ _ _ _ _ | exact bsPart0 | exact bsPart1 ⟨_, _, _, _, _⟩ | exact bsNode1 ⟨_, _, _, _⟩ | exact bsPtr3 _ _ _ | exact bsSl0 | exact bsSl1 ⟨_, _, _⟩) rfl (by decide) rfl ?_; intro g5
  refine GL.v Wag ?_
  refine GL.nil ?_
  refine GE.seq ?_
  refine GC.seq ?_
  refine GC.seq ?_
  refine GC.region ?_
  refine GL.v Wag ?_
  refine GL.nil ?_
  refine GE.seq ?_
  refine GC.block ?_
  -- loop 1: carried slots [3, 4]
  refine GC.loopK (α := Nat × Option Addr × Nat) (fun x => x.1 ≤ ms.length) (fun x => [(3, .slice x.2.1 (whichL x.1 (effB (gr ms))).length x.2.2), (4, .int .i64 x.1)]) [(1, _)] (fun x => row intE x.2.1 x.2.2 (whichL x.1 (effB (gr ms))) :: blk g1 25 [.slice A ms.length c] :: L) (fun x => ms.length - x.1) (0, some ⟨g5, 0, none⟩, 0) Wkp Wsb (Nat.zero_le _) ?_
  rintro ⟨i, B, d⟩ hi
  dsimp only at hi ⊢
  have hwl := whichL_length i (effB (gr ms))
  refine GC.seq ?_
  refine GC.seq ?_
  refine GC.region ?_
  refine GL.v Wmv ?_
  refine GL.v Wfa ?_
  refine GL.v Wlb ?_
  refine GL.v Wln ?_
  refine GL.v Wls ?_
  refine GL.nil ?_
  refine GE.seq ?_
  refine GC.ifs (fun h1 => ?_) (fun h1 => ?_)
  · -- T
    have hil : i < ms.length := by omega
    have hef : effB (gr ms) i = decide (ms[i].kind = 2) := by rw [effB, kindAt_gr (k := i) (by omega)]; rfl
    refine GC.skip ?_
    refine GE.seq ?_
    refine GC.seq ?_
    refine GC.block ?_
    refine GC.seq ?_
    refine GC.region ?_
    refine GL.v Wfa ?_
    refine GL.v Wlb ?_
    refine GL.v Wmv ?_
    refine GL.v Wix ?_
    refine GL.v Wfa ?_
    refine GL.v Wlef ?_
    refine GL.v Weq ?_
    refine GL.nil ?_
    refine GE.seq ?_
    refine GC.ifs (fun h2 => ?_) (fun h2 => ?_)
    · -- TT
      refine GC.region ?_
      refine GL.v Wmv ?_
      refine GL.v Wmv ?_
      refine GL.buildSlice rfl (by first | exact bsInt0 | exact bsInt1 _ | exact bsInt2 _ _ | exact bsInt3 _ _ _ | exact bsInt4 _ _ _ _ | exact bsInt5 _ _ _ _ _ | exact bsInt6 _ _ _ _ _ _ | exact bsInt7 _ _ _ _ _ _ _ | exact bsInt8 _ _ _ _ _ _ _ _ | exact bsInt9 _ _ _ _ _ _ _ _ _ | exact bsInt10 _ _ _ _ _ _ _ _ _ _ | exact bsPart0 | exact bsPart1 ⟨_, _, _, _, _⟩ | exact bsNode1 ⟨_, _, _, _⟩ | exact bsPtr3 _ _ _ | exact bsSl0 | exact bsSl1 ⟨_, _, _⟩) rfl (by decide) rfl ?_; intro g22
      first | (refine GL.append rfl rfl Wpk (by assumption) Wim (by first | rfl | (simp; done) | (simp; omega)) (by first | rfl | (simp; done) | (simp; omega)) (by first | omega | (simp; omega)) (by first | omega | (simp; omega)) rfl ?_; intro A23 c23) | (refine GL.append rfl rfl Wpk (Rd.of_pick Wpk) Imp.refl (by first | rfl | (simp; done) | (simp; omega)) (by first | rfl | (simp; done) | (simp; omega)) (by first | omega | (simp; omega)) (by first | omega | (simp; omega)) rfl ?_; intro A23 c23)
      refine GL.v Wag ?_
      refine GL.nil ?_
      refine GE.block ?_
      refine GE.seq ?_
      refine GC.region ?_
      refine GL.v Wmv ?_
      refine GL.v Wad ?_
      refine GL.v Wag ?_
      refine GL.nil ?_
      -- round of loop 1, path TT
      rw [whichL_yes (by rw [hef]; exact decide_eq_true h2)]
      refine GE.round (i + 1, _, _) (by dsimp only; omega) (by dsimp only; omega) Wkp Wsb
    · -- TF
      refine GC.skip ?_
      refine GE.block ?_
      refine GE.seq ?_
      refine GC.region ?_
      refine GL.v Wmv ?_
      refine GL.v Wad ?_
      refine GL.v Wag ?_
      refine GL.nil ?_
      -- round of loop 1, path TF
      rw [whichL_no (n := i) (p := effB (gr ms)) (by rw [hef]; exact decide_eq_false h2)]
      refine GE.round (i + 1, B, d) (by dsimp only; omega) (by dsimp only; omega) Wkp Wsb
  · -- F
    have hie : i = ms.length := by omega
    subst hie
    rw [show whichL ms.length (effB (gr ms)) = effL (gr ms) by rw [effL, gr_length]]
    refine GC.exit ?_
    refine GE.seq_exit ?_
    refine GE.loop_exit ?_
    refine GE.block_exit ?_
    refine GE.seq ?_
    refine GC.seq ?_
    refine GC.region ?_
    refine GL.v Wmv ?_
    refine GL.v Wag ?_
    refine GL.nil ?_
    refine GE.seq ?_
    refine GC.ret ?_
    -- returns, path F
    refine GE.ret_tmp (L' := row intE B d (effL (gr ms)) :: L) (.inl rfl) rfl rfl Wsb ?_
    exact ⟨_, _, rfl, rfl⟩
end SG
