/- Contracts: set cells, of both; drawn arguments. -/
import Derived.Test.YtllepoepfkobfaaD10
import Derived.Test.YtllepoepfkobfaaD24
namespace SG
open Go Go.RowKit Go.Proofs
set_option linter.unusedVariables false
set_option linter.unusedSimpArgs false
set_option maxRecDepth 100000
theorem copyInts_spec (w0 : World) (L : List Asn) (A : Option Addr) (c : Nat) (xs : List Int) (hX : Rd w0 L intE A c xs) (hl : xs.length ≤ 1100000) :
    Tr Try.prog 71 #[.slice A xs.length c] w0 L (fun v L' => ∃ B d, v = .slice B xs.length d ∧ L' = row intE B d xs :: L) := by
  refine Tr.enter (args := [.slice A xs.length c]) Try.func71 Try.ntmps71 rfl rfl ?_
  refine GC.seq ?_
  refine GC.region ?_
  refine GL.v Wag ?_
  refine GL.nil ?_
  refine GE.seq ?_
  refine GC.seq ?_
  refine GC.region ?_
  refine GL.buildSlice rfl (by first | exact bsInt0 | exact bsInt1 _ | exact bsInt2 _ _ | exact bsInt3 _ _ _ | exact bsInt4 _ _ _ _ | exact bsInt5 _ _ _ _ _ | exact bsInt6 _ _ _ _ _ _ | exact bsInt7 _ _ _ _ _ _ _ | exact bsInt8 _ _ _ _ _ _ _ _ | exact bsInt9 _ _ _ _ _ _ _ _ _ | exact bsInt10 _ _ _ _ _ _ _ _ _ _ | exact bsPart0 | exact bsPart1 ⟨_, _, _, _, _⟩ | exact bsNode1 ⟨_, _, _, _⟩ | exact bsPtr3 _ _ _ | exact bsSl0 | exact bsSl1 ⟨_, _, _⟩) rfl (by decide) rfl ?_; intro g3
  refine GL.v Wmv ?_
  first | (refine GL.append rfl rfl Wpk (by assumption) Wim (by first | rfl | (simp; done) | (simp; omega)) (by first | rfl | (simp; done) | (simp; omega)) (by first | omega | (simp; omega)) (by first | omega | (simp; omega)) rfl ?_; intro A5 c5) | (refine GL.append rfl rfl Wpk (Rd.of_pick Wpk) Imp.refl (by first | rfl | (simp; done) | (simp; omega)) (by first | rfl | (simp; done) | (simp; omega)) (by first | omega | (simp; omega)) (by first | omega | (simp; omega)) rfl ?_; intro A5 c5)
  refine GL.v Wag ?_
  refine GL.nil ?_
  refine GE.seq ?_
  refine GC.ret ?_
  -- returns, path 
  refine GE.ret_tmp (L' := row intE A5 c5 xs :: L) (.inl rfl) rfl rfl Wsb ?_
  exact ⟨A5, c5, rfl, rfl⟩
theorem CloneInt_spec (w0 : World) (L : List Asn) (A : Option Addr) (c : Nat) (ps : List Int) (hR : Rd w0 L intE A c ps) (hl : ps.length ≤ 1100000) :
    Tr Try.prog 96 #[.slice A ps.length c] w0 L (fun v L' => ∃ B d, v = .slice B ps.length d ∧ ps.length ≤ d ∧ L' = row intE B d ps :: L) := by
  refine Tr.enter (args := [.slice A ps.length c]) Try.func96 Try.ntmps96 rfl rfl ?_
  refine GC.seq ?_
  refine GC.region ?_
  refine GL.v Wag ?_
  refine GL.nil ?_
  refine GE.seq ?_
  refine GC.seq ?_
  refine GC.seq ?_
  refine GC.region ?_
  refine GL.v Wmv ?_
  refine GL.v (by exact EvP.r (Ev.eql_nil rfl rfl)) ?_
  refine GL.nil ?_
  refine GE.seq ?_
  refine GC.ifs (fun h1 => ?_) (fun h1 => ?_)
  · -- T
    refine GC.fact (fun w hs => hR.of_none h1 w hs) fun hnil => ?_
    subst hnil
    refine GC.seq ?_
    refine GC.region ?_
    refine GL.v Wag ?_
    refine GL.nil ?_
    refine GE.seq ?_
    refine GC.ret ?_
    refine GE.seq_ret ?_
    -- returns, path T
    refine GE.state (fun _ hs => hs.empty intE none) ?_
    refine GE.ret_tmp (L' := row intE none 0 [] :: L) (.inl rfl) rfl rfl Wsb ?_
    exact ⟨none, 0, rfl, Nat.le_refl _, rfl⟩
  · -- F
    refine GC.skip ?_
    refine GE.seq ?_
    refine GC.seq ?_
    refine GC.region ?_
    refine GL.buildSlice rfl (by first | exact bsInt0 | exact bsInt1 _ | exact bsInt2 _ _ | exact bsInt3 _ _ _ | exact bsInt4 _ _ _ _ | exact bsInt5 _ _ _ _ _ | exact bsInt6 _ _ _ _ _ _ | exact bsInt7 _ _ _ _ _ _ _ | exact bsInt8 _ _ _ _ _ _ _ _ | exact bsInt9 _ _ _ _ _ _ _ _ _ | exact bsInt10 _ _ _ _ _ _ _ _ _ _ | exact bsPart0 | exact bsPart1 ⟨_, _, _, _, _⟩ | exact bsNode1 ⟨_, _, _, _⟩ | exact bsPtr3 _ _ _ | exact bsSl0 | exact bsSl1 ⟨_, _, _⟩) rfl (by decide) rfl ?_; intro g5
    refine GL.v Wmv ?_
    first | (refine GL.append rfl rfl Wpk (by assumption) Wim (by first | rfl | (simp; done) | (simp; omega)) (by first | rfl | (simp; done) | (simp; omega)) (by first | omega | (simp; omega)) (by first | omega | (simp; omega)) rfl ?_; intro A7 c7) | (refine GL.append rfl rfl Wpk (Rd.of_pick Wpk) Imp.refl (by first | rfl | (simp; done) | (simp; omega)) (by first | rfl | (simp; done) | (simp; omega)) (by first | omega | (simp; omega)) (by first | omega | (simp; omega)) rfl ?_; intro A7 c7)
    refine GL.row_cap (E := intE) (A := A7) (by exact Pick.head) fun hc1 hc2 => ?_
    refine GL.v Wag ?_
    refine GL.nil ?_
    refine GE.seq ?_
    refine GC.ret ?_
    -- returns, path F
    refine GE.ret_tmp (L' := row intE A7 c7 ([] ++ ps) :: L) (.inl rfl) rfl rfl Wsb ?_
    exact ⟨A7, c7, rfl, hc1, rfl⟩
theorem cloneInt_spec (w0 : World) (L : List Asn) (A : Option Addr) (c : Nat) (ps : List Int) (hR : Rd w0 L intE A c ps) (hl : ps.length ≤ 1100000) :
    Tr Try.prog 68 #[.slice A ps.length c] w0 L (fun v L' => ∃ B, v = .slice B ps.length ps.length ∧ L' = row intE B ps.length ps :: L) := by
  refine Tr.enter (args := [.slice A ps.length c]) Try.func68 Try.ntmps68 rfl rfl ?_
  refine GC.seq ?_
  refine GC.region ?_
  refine GL.v Wag ?_
  refine GL.nil ?_
  refine GE.seq ?_
  refine GC.seq ?_
  refine GC.region ?_
  refine GL.v Wmv ?_
  refine GL.call rfl rfl (CloneInt_spec _ _ _ _ _ (hR.imp Wim) hl) ?_
  rintro _ _ ⟨B4, d4, rfl, hd4, rfl⟩
  refine GL.callF rfl rfl (ClipInt_spec _ _ _ _ _ Wom) ?_
  refine GL.row_clip (by exact Pick.head) ?_
  refine GL.v Wag ?_
  refine GL.nil ?_
  refine GE.seq ?_
  refine GC.ret ?_
  -- returns, path 
  refine GE.ret_tmp (L' := row intE B4 ps.length ps :: L) (.inl rfl) rfl rfl Wsb ?_
  exact ⟨B4, rfl, rfl⟩
theorem isCell_spec (w0 : World) (L : List Asn) (A : Option Addr) (c : Nat) (ms : List NdM) (hG : RdG w0 L A c ms) (k : Int) (hn : ms.length ≤ 1100000) : Tr Try.prog 89 #[.agg #[.slice A ms.length c], .int .i64 k] w0 L (fun v L' => v = .bool (cellB (gr ms) k) ∧ L' = L) := by
  have hN := hG.nodes
  refine Tr.enter (args := [.agg #[.slice A ms.length c], .int .i64 k]) Try.func89 Try.ntmps89 rfl rfl ?_
  refine GC.seq ?_
  refine GC.region ?_
  refine GL.box_agg rfl rfl ?_; intro g2
  refine GL.v Wag ?_
  refine GL.nil ?_
  refine GE.seq ?_
  refine GC.seq ?_
  refine GC.region ?_
  refine GL.v Wmv ?_
  refine GL.v Wfa ?_
  refine GL.v Wlb ?_
  refine GL.v Wln ?_
  refine GL.v Wsu ?_
  refine GL.callF rfl rfl (inRange_spec _ _ _ _ _) ?_
  refine GL.v Wmv ?_
  refine GL.gs (fun h1 => ?_) (fun h1 => ?_)
  · -- t
    have hk := inB_iff.1 h1
    refine GL.want rfl rfl ?_
    refine GL.v Wfa ?_
    refine GL.want rfl rfl ?_
    refine GL.v Wlb ?_
    refine GL.want rfl rfl ?_
    refine GL.v Wmv ?_
    refine GL.want rfl rfl ?_
    refine GL.v Wix ?_
    refine GL.want rfl rfl ?_
    refine GL.v Wfa ?_
    refine GL.want rfl rfl ?_
    refine GL.v Wlef ?_
    refine GL.want rfl rfl ?_
    refine GL.v Weq ?_
    refine GL.v Wpt ?_
    refine GL.v Wag ?_
    refine GL.nil ?_
    refine GE.seq ?_
    refine GC.ret ?_
    -- returns, path t
    refine GE.ret_tmp (L' := L) (.inl rfl) rfl rfl Wsb ?_
    exact ⟨by simp only [cellB, gr_length]; rw [h1, kindAt_gr (by omega)]; rfl, rfl⟩
  · -- f
    refine GL.unwant rfl rfl rfl rfl ?_
    refine GL.unwant rfl rfl rfl rfl ?_
    refine GL.unwant rfl rfl rfl rfl ?_
    refine GL.unwant rfl rfl rfl rfl ?_
    refine GL.unwant rfl rfl rfl rfl ?_
    refine GL.unwant rfl rfl rfl rfl ?_
    refine GL.unwant rfl rfl rfl rfl ?_
    refine GL.v Wpf ?_
    refine GL.v Wag ?_
    refine GL.nil ?_
    refine GE.seq ?_
    refine GC.ret ?_
    -- returns, path f
    refine GE.ret_tmp (L' := L) (.inl rfl) rfl rfl Wsb ?_
    exact ⟨by simp only [cellB, gr_length]; rw [h1]; rfl, rfl⟩
theorem setOk_no1 {gs : List Nd} {xs : List Int} {n v : Int} (h : cellsV gs xs = false) : setOk gs xs n v = false := by rw [setOk, h]; rfl
theorem setOk_no2 {gs : List Nd} {xs : List Int} {n v : Int} (h : cellB gs n = false) : setOk gs xs n v = false := by rw [setOk, h]; simp
theorem setOk_no3 {gs : List Nd} {xs : List Int} {n v : Int} (h : inB v 0 999 = false) : setOk gs xs n v = false := by rw [setOk, h]; simp
end SG
