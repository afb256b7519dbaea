/- Contracts: drawn sessions. -/
import Derived.Test.YtllepoepfkobfaaD41
namespace SG
open Go Go.RowKit Go.Proofs
set_option linter.unusedVariables false
set_option linter.unusedSimpArgs false
set_option maxRecDepth 100000
theorem someActs_spec (w0 : World) (L : List Asn) (g : Nat) (A : Option Addr) (c : Nat) (bs : List Int) (hC : Code0 w0 A c bs) (p : Int) (p0 : 0 ≤ p) (p1 : p ≤ 700000) (D0 : Option Addr) (e0 : Nat) (ms : List NdM) (hG : RdG w0 L D0 e0 ms) (hm1 : 1 ≤ ms.length) (hm : ms.length ≤ 10) :
    Tr Try.prog 86 #[.pointer (some ⟨g, 0, none⟩), .agg #[.slice D0 ms.length e0]] w0 (rdr g A c bs p :: L) (fun v L' => ∃ (D : Option Addr) (e : Nat) (ac : List Act3) (p' : Int), v = .slice D ac.length e ∧ ac.length ≤ 12 ∧ p ≤ p' ∧ p' ≤ p + 100 ∧ L' = row actE D e ac :: rdr g A c bs p' :: L) := by
  have hel : (effL (gr ms)).length ≤ ms.length := by have := whichL_length (gr ms).length (effB (gr ms)); rw [gr_length] at this; unfold effL; rw [gr_length]; exact this
  refine Tr.enter (args := [.pointer (some ⟨g, 0, none⟩), .agg #[.slice D0 ms.length e0]]) Try.func86 Try.ntmps86 rfl rfl ?_
  refine GC.seq ?_
  refine GC.region ?_
  refine GL.box_agg rfl rfl ?_; intro g3
  refine GL.v Wag ?_
  refine GL.nil ?_
  refine GE.seq ?_
  refine GC.seq ?_
  refine GC.region ?_
  refine GL.buildSlice rfl (by first | exact bsInt0 | exact bsInt1 _ | exact bsInt2 _ _ | exact bsInt3 _ _ _ | exact bsInt4 _ _ _ _ | exact bsInt5 _ _ _ _ _ | exact bsInt6 _ _ _ _ _ _ | exact bsInt7 _ _ _ _ _ _ _ | exact bsInt8 _ _ _ _ _ _ _ _ | exact bsInt9 _ _ _ _ _ _ _ _ _ | exact bsInt10 _ _ _ _ _ _ _ _ _ _ | exact bsPart0 | exact bsPart1 ⟨_, _, _, _, _⟩ | exact bsNode1 ⟨_, _, _, _⟩ | exact bsPtr3 _ _ _ | exact bsSl0 | exact bsSl1 ⟨_, _, _⟩ | exact bsAct0 | exact bsBool0 | exact bsAct1 ⟨_, _, _⟩) rfl (by decide) rfl ?_; intro g9
  refine GL.v Wag ?_
  refine GL.nil ?_
  refine GE.seq ?_
  refine GC.seq ?_
  refine GC.region ?_
  refine GL.v Wlba ?_
  refine GL.call rfl rfl (effects_spec _ _ _ _ _ (by first | assumption | exact RdG.imp (by assumption) Wim | exact RdG.of_pick Wpk Wpk) (by first | omega | exact SizeG.le (by assumption))) ?_
  rintro _ _ ⟨B11, d11, rfl, rfl⟩
  refine GL.v Wag ?_
  refine GL.nil ?_
  refine GE.seq ?_
  refine GC.seq ?_
  refine GC.seq ?_
  refine GC.region ?_
  refine GL.v Wmv ?_
  refine GL.buildSlice rfl (by first | exact bsInt0 | exact bsInt1 _ | exact bsInt2 _ _ | exact bsInt3 _ _ _ | exact bsInt4 _ _ _ _ | exact bsInt5 _ _ _ _ _ | exact bsInt6 _ _ _ _ _ _ | exact bsInt7 _ _ _ _ _ _ _ | exact bsInt8 _ _ _ _ _ _ _ _ | exact bsInt9 _ _ _ _ _ _ _ _ _ | exact bsInt10 _ _ _ _ _ _ _ _ _ _ | exact bsPart0 | exact bsPart1 ⟨_, _, _, _, _⟩ | exact bsNode1 ⟨_, _, _, _⟩ | exact bsPtr3 _ _ _ | exact bsSl0 | exact bsSl1 ⟨_, _, _⟩ | exact bsAct0 | exact bsBool0 | exact bsAct1 ⟨_, _, _⟩) rfl (by decide) rfl ?_; intro g13
  refine GL.front (A := rdr _ _ _ _ _) Wpk ?_
  refine GL.call rfl rfl (one_spec _ _ _ _ _ _ (by assumption) _ (by omega) (by omega) _ _ _ (by first | exact Rd.of_pick Wpk | exact Rd.imp (by assumption) Wim) _ (by rfl) (by first | omega | (simp; done) | (simp; omega)) (by first | omega | (simp; done) | (simp; omega))) ?_
  rintro _ _ ⟨x14, rfl, x14m, rfl⟩
  refine GL.v Wag ?_
  refine GL.nil ?_
  refine GE.seq ?_
  refine GC.block ?_
  -- loop 1: carried slots [5, 7]
  have hx14 : 0 ≤ x14 ∧ x14 ≤ 12 := by simp at x14m; omega
  refine GC.loopK (α := Int × Option Addr × Nat × List Act3 × Int) (fun x => 0 ≤ x.1 ∧ x.1 ≤ 12 ∧ x.2.2.2.1.length ≤ 12 - x.1 ∧ p + 1 ≤ x.2.2.2.2 ∧ x.2.2.2.2 ≤ p + 1 + 5 * (12 - x.1)) (fun x => [(5, .slice x.2.1 x.2.2.2.1.length x.2.2.1), (7, .int .i64 x.1)]) [(0, _), (3, _), (6, _)] (fun x => row actE x.2.1 x.2.2.1 x.2.2.2.1 :: row intE B11 d11 (effL (gr ms)) :: blk g3 25 [.slice D0 ms.length e0] :: rdr g A c bs x.2.2.2.2 :: L) (fun x => x.1.toNat) (x14, some ⟨g9, 0, none⟩, 0, [], p + 1) Wkp Wsb ⟨hx14.1, hx14.2, by simp; omega, by dsimp only; omega, by dsimp only; omega⟩ ?_
  rintro ⟨m, D, e, ac, pp⟩ ⟨hm0, hm3, hal, hp1, hp2⟩
  dsimp only at hm0 hm3 hal hp1 hp2 ⊢
  refine GC.seq ?_
  refine GC.seq ?_
  refine GC.region ?_
  refine GL.v Wmv ?_
  refine GL.v Wgt ?_
  refine GL.nil ?_
  refine GE.seq ?_
  refine GC.ifs (fun h1 => ?_) (fun h1 => ?_)
  · -- T
    refine GC.skip ?_
    refine GE.seq ?_
    refine GC.seq ?_
    refine GC.block ?_
    refine GC.seq ?_
    refine GC.region ?_
    refine GL.v Wmv ?_
    refine GL.front (A := rdr _ _ _ _ _) Wpk ?_
    refine GL.call rfl rfl (pick_spec _ _ _ _ _ _ (by assumption) _ _ (by omega) (by omega) (by omega) (by omega)) ?_
    rintro _ _ ⟨x20, rfl, x20a, x20b, x20c, rfl⟩
    refine GL.nil ?_
    refine GE.seq ?_
    refine GC.block ?_
    refine GC.seq ?_
    refine GC.region ?_
    refine GL.v Weq ?_
    refine GL.v Wag ?_
    refine GL.nil ?_
    refine GE.seq ?_
    refine GC.ifs (fun h2 => ?_) (fun h2 => ?_)
    · -- TT
      refine GC.region ?_
      refine GL.v Wmv ?_
      refine GL.v (by exact EvP.r (Ev.build rfl (by first | exact bdPart ⟨_, _, _, _, _⟩ | exact bdReader _ _ _ | exact bdPart4 _ _ _ _ | exact bdForm _ _ _ | exact bdForm0 | exact bdGraph0 | exact bdGraph _ _ _ | exact bdNode1 _ | exact bdNode2 _ _ _ _ | exact bdHist0 | exact bdHist1 _ _ _ | exact bdHist2 _ _ _ _ | exact bdAct1 _ | exact bdAct2 _ _ | exact bdAct3 _ _ _ | exact bdAct13 _ _ | exact bdSes _ _ _ _ _ _ _ _ _))) ?_
      refine GL.buildSlice rfl (by first | exact bsInt0 | exact bsInt1 _ | exact bsInt2 _ _ | exact bsInt3 _ _ _ | exact bsInt4 _ _ _ _ | exact bsInt5 _ _ _ _ _ | exact bsInt6 _ _ _ _ _ _ | exact bsInt7 _ _ _ _ _ _ _ | exact bsInt8 _ _ _ _ _ _ _ _ | exact bsInt9 _ _ _ _ _ _ _ _ _ | exact bsInt10 _ _ _ _ _ _ _ _ _ _ | exact bsPart0 | exact bsPart1 ⟨_, _, _, _, _⟩ | exact bsNode1 ⟨_, _, _, _⟩ | exact bsPtr3 _ _ _ | exact bsSl0 | exact bsSl1 ⟨_, _, _⟩ | exact bsAct0 | exact bsBool0 | exact bsAct1 ⟨_, _, _⟩) rfl (by decide) rfl ?_; intro g54
      first | (refine GL.append rfl rfl Wpk (by assumption) Wim (by first | rfl | (simp; done) | (simp; omega)) (by first | rfl | (simp; done) | (simp; omega)) (by first | omega | (simp; omega)) (by first | omega | (simp; omega)) rfl ?_; intro A55 c55) | (refine GL.append rfl rfl Wpk (Rd.of_pick Wpk) Imp.refl (by first | rfl | (simp; done) | (simp; omega)) (by first | rfl | (simp; done) | (simp; omega)) (by first | omega | (simp; omega)) (by first | omega | (simp; omega)) rfl ?_; intro A55 c55)
      refine GL.v Wag ?_
      refine GL.nil ?_
      refine GE.block ?_
      refine GE.block ?_
      refine GE.seq ?_
      refine GC.region ?_
      refine GL.v Wmv ?_
      refine GL.v Wsu ?_
      refine GL.v Wag ?_
      refine GL.nil ?_
      -- round of loop 1, path TT
      refine GE.round (m - 1, A55, c55, ac ++ [⟨2, 0, 0⟩], pp + 1) ⟨by dsimp only; omega, by dsimp only; omega, by simp; omega, by dsimp only; omega, by dsimp only; omega⟩ (by dsimp only; omega) Wkp Wsb
    · -- TF
      refine GC.seq ?_
      refine GC.seq ?_
      refine GC.region ?_
      refine GL.v Weq ?_
      refine GL.v Wag ?_
      refine GL.nil ?_
      refine GE.seq ?_
      refine GC.ifs (fun h3 => ?_) (fun h3 => ?_)
      · -- TFT
        refine GC.skip ?_
        refine GE.seq ?_
        refine GC.cond_true rfl ?_
        refine GC.region ?_
        refine GL.v Wmv ?_
        refine GL.v (by exact EvP.r (Ev.build rfl (by first | exact bdPart ⟨_, _, _, _, _⟩ | exact bdReader _ _ _ | exact bdPart4 _ _ _ _ | exact bdForm _ _ _ | exact bdForm0 | exact bdGraph0 | exact bdGraph _ _ _ | exact bdNode1 _ | exact bdNode2 _ _ _ _ | exact bdHist0 | exact bdHist1 _ _ _ | exact bdHist2 _ _ _ _ | exact bdAct1 _ | exact bdAct2 _ _ | exact bdAct3 _ _ _ | exact bdAct13 _ _ | exact bdSes _ _ _ _ _ _ _ _ _))) ?_
        refine GL.buildSlice rfl (by first | exact bsInt0 | exact bsInt1 _ | exact bsInt2 _ _ | exact bsInt3 _ _ _ | exact bsInt4 _ _ _ _ | exact bsInt5 _ _ _ _ _ | exact bsInt6 _ _ _ _ _ _ | exact bsInt7 _ _ _ _ _ _ _ | exact bsInt8 _ _ _ _ _ _ _ _ | exact bsInt9 _ _ _ _ _ _ _ _ _ | exact bsInt10 _ _ _ _ _ _ _ _ _ _ | exact bsPart0 | exact bsPart1 ⟨_, _, _, _, _⟩ | exact bsNode1 ⟨_, _, _, _⟩ | exact bsPtr3 _ _ _ | exact bsSl0 | exact bsSl1 ⟨_, _, _⟩ | exact bsAct0 | exact bsBool0 | exact bsAct1 ⟨_, _, _⟩) rfl (by decide) rfl ?_; intro g61
        first | (refine GL.append rfl rfl Wpk (by assumption) Wim (by first | rfl | (simp; done) | (simp; omega)) (by first | rfl | (simp; done) | (simp; omega)) (by first | omega | (simp; omega)) (by first | omega | (simp; omega)) rfl ?_; intro A62 c62) | (refine GL.append rfl rfl Wpk (Rd.of_pick Wpk) Imp.refl (by first | rfl | (simp; done) | (simp; omega)) (by first | rfl | (simp; done) | (simp; omega)) (by first | omega | (simp; omega)) (by first | omega | (simp; omega)) rfl ?_; intro A62 c62)
        refine GL.v Wag ?_
        refine GL.nil ?_
        refine GE.block ?_
        refine GE.block ?_
        refine GE.seq ?_
        refine GC.region ?_
        refine GL.v Wmv ?_
        refine GL.v Wsu ?_
        refine GL.v Wag ?_
        refine GL.nil ?_
        -- round of loop 1, path TFT
        refine GE.round (m - 1, A62, c62, ac ++ [⟨3, 0, 0⟩], pp + 1) ⟨by dsimp only; omega, by dsimp only; omega, by simp; omega, by dsimp only; omega, by dsimp only; omega⟩ (by dsimp only; omega) Wkp Wsb
      · -- TFF
        refine GC.region ?_
        refine GL.v Weq ?_
        refine GL.v Wag ?_
        refine GL.nil ?_
        refine GE.seq ?_
        refine GC.ifs (fun h4 => ?_) (fun h4 => ?_)
        · -- TFFT
          refine GC.region ?_
          refine GL.v Wmv ?_
          refine GL.v (by exact EvP.r (Ev.build rfl (by first | exact bdPart ⟨_, _, _, _, _⟩ | exact bdReader _ _ _ | exact bdPart4 _ _ _ _ | exact bdForm _ _ _ | exact bdForm0 | exact bdGraph0 | exact bdGraph _ _ _ | exact bdNode1 _ | exact bdNode2 _ _ _ _ | exact bdHist0 | exact bdHist1 _ _ _ | exact bdHist2 _ _ _ _ | exact bdAct1 _ | exact bdAct2 _ _ | exact bdAct3 _ _ _ | exact bdAct13 _ _ | exact bdSes _ _ _ _ _ _ _ _ _))) ?_
          refine GL.buildSlice rfl (by first | exact bsInt0 | exact bsInt1 _ | exact bsInt2 _ _ | exact bsInt3 _ _ _ | exact bsInt4 _ _ _ _ | exact bsInt5 _ _ _ _ _ | exact bsInt6 _ _ _ _ _ _ | exact bsInt7 _ _ _ _ _ _ _ | exact bsInt8 _ _ _ _ _ _ _ _ | exact bsInt9 _ _ _ _ _ _ _ _ _ | exact bsInt10 _ _ _ _ _ _ _ _ _ _ | exact bsPart0 | exact bsPart1 ⟨_, _, _, _, _⟩ | exact bsNode1 ⟨_, _, _, _⟩ | exact bsPtr3 _ _ _ | exact bsSl0 | exact bsSl1 ⟨_, _, _⟩ | exact bsAct0 | exact bsBool0 | exact bsAct1 ⟨_, _, _⟩) rfl (by decide) rfl ?_; intro g61
          first | (refine GL.append rfl rfl Wpk (by assumption) Wim (by first | rfl | (simp; done) | (simp; omega)) (by first | rfl | (simp; done) | (simp; omega)) (by first | omega | (simp; omega)) (by first | omega | (simp; omega)) rfl ?_; intro A62 c62) | (refine GL.append rfl rfl Wpk (Rd.of_pick Wpk) Imp.refl (by first | rfl | (simp; done) | (simp; omega)) (by first | rfl | (simp; done) | (simp; omega)) (by first | omega | (simp; omega)) (by first | omega | (simp; omega)) rfl ?_; intro A62 c62)
          refine GL.v Wag ?_
          refine GL.nil ?_
          refine GE.block ?_
          refine GE.block ?_
          refine GE.seq ?_
          refine GC.region ?_
          refine GL.v Wmv ?_
          refine GL.v Wsu ?_
          refine GL.v Wag ?_
          refine GL.nil ?_
          -- round of loop 1, path TFFT
          refine GE.round (m - 1, A62, c62, ac ++ [⟨3, 0, 0⟩], pp + 1) ⟨by dsimp only; omega, by dsimp only; omega, by simp; omega, by dsimp only; omega, by dsimp only; omega⟩ (by dsimp only; omega) Wkp Wsb
        · -- TFFF
          refine GC.seq ?_
          refine GC.region ?_
          refine GL.v Weq ?_
          refine GL.v Wag ?_
          refine GL.nil ?_
          refine GE.seq ?_
          refine GC.ifs (fun h5 => ?_) (fun h5 => ?_)
          · -- TFFFT
            refine GC.seq ?_
            refine GC.region ?_
            refine GL.v Wmv ?_
            refine GL.v Wln ?_
            refine GL.v Wgt ?_
            refine GL.v Wmv ?_
            refine GL.gs (fun h6 => ?_) (fun h6 => ?_)
            · -- TFFFTt
              refine GL.want rfl rfl ?_
              refine GL.v Wmv ?_
              refine GL.want rfl rfl ?_
              refine GL.front (A := rdr _ _ _ _ _) Wpk ?_
              refine GL.call rfl rfl (pick_spec _ _ _ _ _ _ (by assumption) _ _ (by omega) (by omega) (by omega) (by omega)) ?_
              rintro _ _ ⟨x70, rfl, x70a, x70b, x70c, rfl⟩
              refine GL.want rfl rfl ?_
              refine GL.v Weq ?_
              refine GL.v Wpt ?_
              refine GL.nil ?_
              refine GE.seq ?_
              refine GC.ifs (fun h7 => ?_) (fun h7 => ?_)
              · -- TFFFTtT
                refine GC.region ?_
                refine GL.v Wmv ?_
                refine GL.v Wmv ?_
                refine GL.v Wmv ?_
                refine GL.v Wmv ?_
                refine GL.v Wln ?_
                refine GL.front (A := rdr _ _ _ _ _) Wpk ?_
                refine GL.call rfl rfl (pick_spec _ _ _ _ _ _ (by assumption) _ _ (by omega) (by omega) (by omega) (by omega)) ?_
                rintro _ _ ⟨x78, rfl, x78a, x78b, x78c, rfl⟩
                have hx78 := x78b (by omega)
                refine GL.v Wix ?_
                refine GL.v Wle ?_
                obtain ⟨z80, hz80⟩ : ∃ z, (effL (gr ms))[x78.toNat]'(by omega) = z := ⟨_, rfl⟩
                rw [hz80]
                refine GL.v (by exact EvP.r (Ev.build rfl (by first | exact bdPart ⟨_, _, _, _, _⟩ | exact bdReader _ _ _ | exact bdPart4 _ _ _ _ | exact bdForm _ _ _ | exact bdForm0 | exact bdGraph0 | exact bdGraph _ _ _ | exact bdNode1 _ | exact bdNode2 _ _ _ _ | exact bdHist0 | exact bdHist1 _ _ _ | exact bdHist2 _ _ _ _ | exact bdAct1 _ | exact bdAct2 _ _ | exact bdAct3 _ _ _ | exact bdAct13 _ _ | exact bdSes _ _ _ _ _ _ _ _ _))) ?_
                refine GL.buildSlice rfl (by first | exact bsInt0 | exact bsInt1 _ | exact bsInt2 _ _ | exact bsInt3 _ _ _ | exact bsInt4 _ _ _ _ | exact bsInt5 _ _ _ _ _ | exact bsInt6 _ _ _ _ _ _ | exact bsInt7 _ _ _ _ _ _ _ | exact bsInt8 _ _ _ _ _ _ _ _ | exact bsInt9 _ _ _ _ _ _ _ _ _ | exact bsInt10 _ _ _ _ _ _ _ _ _ _ | exact bsPart0 | exact bsPart1 ⟨_, _, _, _, _⟩ | exact bsNode1 ⟨_, _, _, _⟩ | exact bsPtr3 _ _ _ | exact bsSl0 | exact bsSl1 ⟨_, _, _⟩ | exact bsAct0 | exact bsBool0 | exact bsAct1 ⟨_, _, _⟩) rfl (by decide) rfl ?_; intro g82
                first | (refine GL.append rfl rfl Wpk (by assumption) Wim (by first | rfl | (simp; done) | (simp; omega)) (by first | rfl | (simp; done) | (simp; omega)) (by first | omega | (simp; omega)) (by first | omega | (simp; omega)) rfl ?_; intro A83 c83) | (refine GL.append rfl rfl Wpk (Rd.of_pick Wpk) Imp.refl (by first | rfl | (simp; done) | (simp; omega)) (by first | rfl | (simp; done) | (simp; omega)) (by first | omega | (simp; omega)) (by first | omega | (simp; omega)) rfl ?_; intro A83 c83)
                refine GL.v Wag ?_
                refine GL.nil ?_
                refine GE.block ?_
                refine GE.block ?_
                refine GE.seq ?_
                refine GC.region ?_
                refine GL.v Wmv ?_
                refine GL.v Wsu ?_
                refine GL.v Wag ?_
                refine GL.nil ?_
                -- round of loop 1, path TFFFTtT
                refine GE.round (m - 1, A83, c83, ac ++ [⟨1, z80, 0⟩], pp + 1 + 1 + 1) ⟨by dsimp only; omega, by dsimp only; omega, by simp; omega, by dsimp only; omega, by dsimp only; omega⟩ (by dsimp only; omega) Wkp Wsb
              · -- TFFFTtF
                refine GC.skip ?_
                refine GE.block ?_
                refine GE.block ?_
                refine GE.seq ?_
                refine GC.region ?_
                refine GL.v Wmv ?_
                refine GL.v Wsu ?_
                refine GL.v Wag ?_
                refine GL.nil ?_
                -- round of loop 1, path TFFFTtF
                refine GE.round (m - 1, D, e, ac, pp + 1 + 1) ⟨by dsimp only; omega, by dsimp only; omega, by dsimp only; omega, by dsimp only; omega, by dsimp only; omega⟩ (by dsimp only; omega) Wkp Wsb
            · -- TFFFTf
              refine GL.unwant rfl rfl rfl rfl ?_
              refine GL.unwant rfl rfl rfl rfl ?_
              refine GL.unwant rfl rfl rfl rfl ?_
              refine GL.v Wpf ?_
              refine GL.nil ?_
              refine GE.seq ?_
              refine GC.cond_false rfl ?_
              refine GC.skip ?_
              refine GE.block ?_
              refine GE.block ?_
              refine GE.seq ?_
              refine GC.region ?_
              refine GL.v Wmv ?_
              refine GL.v Wsu ?_
              refine GL.v Wag ?_
              refine GL.nil ?_
              -- round of loop 1, path TFFFTf
              refine GE.round (m - 1, D, e, ac, pp + 1) ⟨by dsimp only; omega, by dsimp only; omega, by dsimp only; omega, by dsimp only; omega, by dsimp only; omega⟩ (by dsimp only; omega) Wkp Wsb
          · -- TFFFF
            refine GC.seq ?_
            refine GC.region ?_
            refine GL.v Wmv ?_
            refine GL.v Wfa ?_
            refine GL.v Wlb ?_
            refine GL.v Wln ?_
            refine GL.front (A := rdr _ _ _ _ _) Wpk ?_
            refine GL.call rfl rfl (pick_spec _ _ _ _ _ _ (by assumption) _ _ (by omega) (by omega) (by omega) (by omega)) ?_
            rintro _ _ ⟨x25, rfl, x25a, x25b, x25c, rfl⟩
            refine GL.v Wag ?_
            refine GL.nil ?_
            refine GE.seq ?_
            refine GC.seq ?_
            refine GC.region ?_
            refine GL.v Wlba ?_
            refine GL.v Wmv ?_
            refine GL.callF rfl rfl (isCell_spec _ _ _ _ _ (by first | assumption | exact RdG.imp (by assumption) Wim | exact RdG.of_pick Wpk Wpk) _ (by first | omega | exact SizeG.le (by assumption))) ?_
            refine GL.nil ?_
            refine GE.seq ?_
            refine GC.ifs (fun h6 => ?_) (fun h6 => ?_)
            · -- TFFFFT
              refine GC.region ?_
              refine GL.v Wmv ?_
              refine GL.v Wmv ?_
              refine GL.v Wmv ?_
              refine GL.v Wmv ?_
              refine GL.front (A := rdr _ _ _ _ _) Wpk ?_
              refine GL.call rfl rfl (pick_spec _ _ _ _ _ _ (by assumption) _ _ (by omega) (by omega) (by omega) (by omega)) ?_
              rintro _ _ ⟨x33, rfl, x33a, x33b, x33c, rfl⟩
              refine GL.buildSlice rfl (by first | exact bsInt0 | exact bsInt1 _ | exact bsInt2 _ _ | exact bsInt3 _ _ _ | exact bsInt4 _ _ _ _ | exact bsInt5 _ _ _ _ _ | exact bsInt6 _ _ _ _ _ _ | exact bsInt7 _ _ _ _ _ _ _ | exact bsInt8 _ _ _ _ _ _ _ _ | exact bsInt9 _ _ _ _ _ _ _ _ _ | exact bsInt10 _ _ _ _ _ _ _ _ _ _ | exact bsPart0 | exact bsPart1 ⟨_, _, _, _, _⟩ | exact bsNode1 ⟨_, _, _, _⟩ | exact bsPtr3 _ _ _ | exact bsSl0 | exact bsSl1 ⟨_, _, _⟩ | exact bsAct0 | exact bsBool0 | exact bsAct1 ⟨_, _, _⟩) rfl (by decide) rfl ?_; intro g34
              refine GL.front (A := rdr _ _ _ _ _) Wpk ?_
              refine GL.call rfl rfl (one_spec _ _ _ _ _ _ (by assumption) _ (by omega) (by omega) _ _ _ (by first | exact Rd.of_pick Wpk | exact Rd.imp (by assumption) Wim) _ (by rfl) (by first | omega | (simp; done) | (simp; omega)) (by first | omega | (simp; done) | (simp; omega))) ?_
              rintro _ _ ⟨x35, rfl, x35m, rfl⟩
              refine GL.v (by exact EvP.r (Ev.build rfl (by first | exact bdPart ⟨_, _, _, _, _⟩ | exact bdReader _ _ _ | exact bdPart4 _ _ _ _ | exact bdForm _ _ _ | exact bdForm0 | exact bdGraph0 | exact bdGraph _ _ _ | exact bdNode1 _ | exact bdNode2 _ _ _ _ | exact bdHist0 | exact bdHist1 _ _ _ | exact bdHist2 _ _ _ _ | exact bdAct1 _ | exact bdAct2 _ _ | exact bdAct3 _ _ _ | exact bdAct13 _ _ | exact bdSes _ _ _ _ _ _ _ _ _))) ?_
              refine GL.buildSlice rfl (by first | exact bsInt0 | exact bsInt1 _ | exact bsInt2 _ _ | exact bsInt3 _ _ _ | exact bsInt4 _ _ _ _ | exact bsInt5 _ _ _ _ _ | exact bsInt6 _ _ _ _ _ _ | exact bsInt7 _ _ _ _ _ _ _ | exact bsInt8 _ _ _ _ _ _ _ _ | exact bsInt9 _ _ _ _ _ _ _ _ _ | exact bsInt10 _ _ _ _ _ _ _ _ _ _ | exact bsPart0 | exact bsPart1 ⟨_, _, _, _, _⟩ | exact bsNode1 ⟨_, _, _, _⟩ | exact bsPtr3 _ _ _ | exact bsSl0 | exact bsSl1 ⟨_, _, _⟩ | exact bsAct0 | exact bsBool0 | exact bsAct1 ⟨_, _, _⟩) rfl (by decide) rfl ?_; intro g37
              first | (refine GL.append rfl rfl Wpk (by assumption) Wim (by first | rfl | (simp; done) | (simp; omega)) (by first | rfl | (simp; done) | (simp; omega)) (by first | omega | (simp; omega)) (by first | omega | (simp; omega)) rfl ?_; intro A38 c38) | (refine GL.append rfl rfl Wpk (Rd.of_pick Wpk) Imp.refl (by first | rfl | (simp; done) | (simp; omega)) (by first | rfl | (simp; done) | (simp; omega)) (by first | omega | (simp; omega)) (by first | omega | (simp; omega)) rfl ?_; intro A38 c38)
              refine GL.v Wag ?_
              refine GL.nil ?_
              refine GE.block ?_
              refine GE.block ?_
              refine GE.seq ?_
              refine GC.region ?_
              refine GL.v Wmv ?_
              refine GL.v Wsu ?_
              refine GL.v Wag ?_
              refine GL.nil ?_
              -- round of loop 1, path TFFFFT
              refine GE.round (m - 1, A38, c38, ac ++ [⟨0, x25, x35⟩], pp + 1 + 1 + 1 + 1) ⟨by dsimp only; omega, by dsimp only; omega, by simp; omega, by dsimp only; omega, by dsimp only; omega⟩ (by dsimp only; omega) Wkp Wsb
            · -- TFFFFF
              refine GC.seq ?_
              refine GC.region ?_
              refine GL.v Wlba ?_
              refine GL.callF rfl rfl (isCell_spec _ _ _ _ _ (by first | assumption | exact RdG.imp (by assumption) Wim | exact RdG.of_pick Wpk Wpk) _ (by first | omega | exact SizeG.le (by assumption))) ?_
              refine GL.nil ?_
              refine GE.seq ?_
              refine GC.ifs (fun h7 => ?_) (fun h7 => ?_)
              · -- TFFFFFT
                refine GC.region ?_
                refine GL.v Wmv ?_
                refine GL.v Wmv ?_
                refine GL.v Wmv ?_
                refine GL.front (A := rdr _ _ _ _ _) Wpk ?_
                refine GL.call rfl rfl (pick_spec _ _ _ _ _ _ (by assumption) _ _ (by omega) (by omega) (by omega) (by omega)) ?_
                rintro _ _ ⟨x44, rfl, x44a, x44b, x44c, rfl⟩
                refine GL.buildSlice rfl (by first | exact bsInt0 | exact bsInt1 _ | exact bsInt2 _ _ | exact bsInt3 _ _ _ | exact bsInt4 _ _ _ _ | exact bsInt5 _ _ _ _ _ | exact bsInt6 _ _ _ _ _ _ | exact bsInt7 _ _ _ _ _ _ _ | exact bsInt8 _ _ _ _ _ _ _ _ | exact bsInt9 _ _ _ _ _ _ _ _ _ | exact bsInt10 _ _ _ _ _ _ _ _ _ _ | exact bsPart0 | exact bsPart1 ⟨_, _, _, _, _⟩ | exact bsNode1 ⟨_, _, _, _⟩ | exact bsPtr3 _ _ _ | exact bsSl0 | exact bsSl1 ⟨_, _, _⟩ | exact bsAct0 | exact bsBool0 | exact bsAct1 ⟨_, _, _⟩) rfl (by decide) rfl ?_; intro g45
                refine GL.front (A := rdr _ _ _ _ _) Wpk ?_
                refine GL.call rfl rfl (one_spec _ _ _ _ _ _ (by assumption) _ (by omega) (by omega) _ _ _ (by first | exact Rd.of_pick Wpk | exact Rd.imp (by assumption) Wim) _ (by rfl) (by first | omega | (simp; done) | (simp; omega)) (by first | omega | (simp; done) | (simp; omega))) ?_
                rintro _ _ ⟨x46, rfl, x46m, rfl⟩
                refine GL.v (by exact EvP.r (Ev.build rfl (by first | exact bdPart ⟨_, _, _, _, _⟩ | exact bdReader _ _ _ | exact bdPart4 _ _ _ _ | exact bdForm _ _ _ | exact bdForm0 | exact bdGraph0 | exact bdGraph _ _ _ | exact bdNode1 _ | exact bdNode2 _ _ _ _ | exact bdHist0 | exact bdHist1 _ _ _ | exact bdHist2 _ _ _ _ | exact bdAct1 _ | exact bdAct2 _ _ | exact bdAct3 _ _ _ | exact bdAct13 _ _ | exact bdSes _ _ _ _ _ _ _ _ _))) ?_
                refine GL.buildSlice rfl (by first | exact bsInt0 | exact bsInt1 _ | exact bsInt2 _ _ | exact bsInt3 _ _ _ | exact bsInt4 _ _ _ _ | exact bsInt5 _ _ _ _ _ | exact bsInt6 _ _ _ _ _ _ | exact bsInt7 _ _ _ _ _ _ _ | exact bsInt8 _ _ _ _ _ _ _ _ | exact bsInt9 _ _ _ _ _ _ _ _ _ | exact bsInt10 _ _ _ _ _ _ _ _ _ _ | exact bsPart0 | exact bsPart1 ⟨_, _, _, _, _⟩ | exact bsNode1 ⟨_, _, _, _⟩ | exact bsPtr3 _ _ _ | exact bsSl0 | exact bsSl1 ⟨_, _, _⟩ | exact bsAct0 | exact bsBool0 | exact bsAct1 ⟨_, _, _⟩) rfl (by decide) rfl ?_; intro g48
                first | (refine GL.append rfl rfl Wpk (by assumption) Wim (by first | rfl | (simp; done) | (simp; omega)) (by first | rfl | (simp; done) | (simp; omega)) (by first | omega | (simp; omega)) (by first | omega | (simp; omega)) rfl ?_; intro A49 c49) | (refine GL.append rfl rfl Wpk (Rd.of_pick Wpk) Imp.refl (by first | rfl | (simp; done) | (simp; omega)) (by first | rfl | (simp; done) | (simp; omega)) (by first | omega | (simp; omega)) (by first | omega | (simp; omega)) rfl ?_; intro A49 c49)
                refine GL.v Wag ?_
                refine GL.nil ?_
                refine GE.block ?_
                refine GE.block ?_
                refine GE.seq ?_
                refine GC.region ?_
                refine GL.v Wmv ?_
                refine GL.v Wsu ?_
                refine GL.v Wag ?_
                refine GL.nil ?_
                -- round of loop 1, path TFFFFFT
                refine GE.round (m - 1, A49, c49, ac ++ [⟨0, 0, x46⟩], pp + 1 + 1 + 1 + 1) ⟨by dsimp only; omega, by dsimp only; omega, by simp; omega, by dsimp only; omega, by dsimp only; omega⟩ (by dsimp only; omega) Wkp Wsb
              · -- TFFFFFF
                refine GC.skip ?_
                refine GE.block ?_
                refine GE.block ?_
                refine GE.seq ?_
                refine GC.region ?_
                refine GL.v Wmv ?_
                refine GL.v Wsu ?_
                refine GL.v Wag ?_
                refine GL.nil ?_
                -- round of loop 1, path TFFFFFF
                refine GE.round (m - 1, D, e, ac, pp + 1 + 1) ⟨by dsimp only; omega, by dsimp only; omega, by dsimp only; omega, by dsimp only; omega, by dsimp only; omega⟩ (by dsimp only; omega) Wkp Wsb
  · -- F
    refine GC.exit ?_
    refine GE.seq_exit ?_
    refine GE.loop_exit ?_
    refine GE.block_exit ?_
    refine GE.seq ?_
    refine GC.seq ?_
    refine GC.seq ?_
    refine GC.region ?_
    refine GL.v Wmv ?_
    refine GL.v Wln ?_
    refine GL.v Wgt ?_
    refine GL.v Wmv ?_
    refine GL.gs (fun h2 => ?_) (fun h2 => ?_)
    · -- Ft
      refine GL.want rfl rfl ?_
      refine GL.v Wmv ?_
      refine GL.want rfl rfl ?_
      refine GL.front (A := rdr _ _ _ _ _) Wpk ?_
      refine GL.call rfl rfl (pick_spec _ _ _ _ _ _ (by assumption) _ _ (by omega) (by omega) (by omega) (by omega)) ?_
      rintro _ _ ⟨x89, rfl, x89a, x89b, x89c, rfl⟩
      refine GL.want rfl rfl ?_
      refine GL.v Weq ?_
      refine GL.v Wpt ?_
      refine GL.nil ?_
      refine GE.seq ?_
      refine GC.ifs (fun h3 => ?_) (fun h3 => ?_)
      · -- FtT
        refine GC.region ?_
        refine GL.v Wmv ?_
        refine GL.v Wmv ?_
        refine GL.buildSlice rfl (by first | exact bsInt0 | exact bsInt1 _ | exact bsInt2 _ _ | exact bsInt3 _ _ _ | exact bsInt4 _ _ _ _ | exact bsInt5 _ _ _ _ _ | exact bsInt6 _ _ _ _ _ _ | exact bsInt7 _ _ _ _ _ _ _ | exact bsInt8 _ _ _ _ _ _ _ _ | exact bsInt9 _ _ _ _ _ _ _ _ _ | exact bsInt10 _ _ _ _ _ _ _ _ _ _ | exact bsPart0 | exact bsPart1 ⟨_, _, _, _, _⟩ | exact bsNode1 ⟨_, _, _, _⟩ | exact bsPtr3 _ _ _ | exact bsSl0 | exact bsSl1 ⟨_, _, _⟩ | exact bsAct0 | exact bsBool0 | exact bsAct1 ⟨_, _, _⟩) rfl (by decide) rfl ?_; intro g94
        refine GL.front (A := rdr _ _ _ _ _) Wpk ?_
        refine GL.call rfl rfl (one_spec _ _ _ _ _ _ (by assumption) _ (by omega) (by omega) _ _ _ (by first | exact Rd.of_pick Wpk | exact Rd.imp (by assumption) Wim) _ (by rfl) (by first | omega | (simp; done) | (simp; omega)) (by first | omega | (simp; done) | (simp; omega))) ?_
        rintro _ _ ⟨x95, rfl, x95m, rfl⟩
        refine GL.v (by exact EvP.r (Ev.build rfl (by first | exact bdPart ⟨_, _, _, _, _⟩ | exact bdReader _ _ _ | exact bdPart4 _ _ _ _ | exact bdForm _ _ _ | exact bdForm0 | exact bdGraph0 | exact bdGraph _ _ _ | exact bdNode1 _ | exact bdNode2 _ _ _ _ | exact bdHist0 | exact bdHist1 _ _ _ | exact bdHist2 _ _ _ _ | exact bdAct1 _ | exact bdAct2 _ _ | exact bdAct3 _ _ _ | exact bdAct13 _ _ | exact bdSes _ _ _ _ _ _ _ _ _))) ?_
        refine GL.v Wix ?_
        refine GL.store_el (v' := (⟨x95, 0, 1⟩ : Act3)) rfl rfl Wpk rfl rfl rfl Wom ?_
        refine GL.nil ?_
        refine GE.seq ?_
        refine GC.seq ?_
        refine GC.region ?_
        refine GL.v Wmv ?_
        refine GL.v Wag ?_
        refine GL.nil ?_
        refine GE.seq ?_
        refine GC.ret ?_
        -- returns, path FtT
        refine GE.ret_tmp (L' := row actE D e (ac.set 0 ⟨x95, 0, 1⟩) :: rdr g A c bs (pp + 1 + 1) :: L) (.inl rfl) rfl rfl Wsb ?_
        exact ⟨D, e, ac.set 0 ⟨x95, 0, 1⟩, _, by rw [List.length_set], by simp; omega, by omega, by omega, rfl⟩
      · -- FtF
        refine GC.skip ?_
        refine GE.seq ?_
        refine GC.seq ?_
        refine GC.region ?_
        refine GL.v Wmv ?_
        refine GL.v Wag ?_
        refine GL.nil ?_
        refine GE.seq ?_
        refine GC.ret ?_
        -- returns, path FtF
        refine GE.ret_tmp (L' := row actE D e ac :: rdr g A c bs (pp + 1) :: L) (.inl rfl) rfl rfl Wsb ?_
        exact ⟨_, _, _, _, rfl, by omega, by omega, by omega, rfl⟩
    · -- Ff
      refine GL.unwant rfl rfl rfl rfl ?_
      refine GL.unwant rfl rfl rfl rfl ?_
      refine GL.unwant rfl rfl rfl rfl ?_
      refine GL.v Wpf ?_
      refine GL.nil ?_
      refine GE.seq ?_
      refine GC.cond_false rfl ?_
      refine GC.skip ?_
      refine GE.seq ?_
      refine GC.seq ?_
      refine GC.region ?_
      refine GL.v Wmv ?_
      refine GL.v Wag ?_
      refine GL.nil ?_
      refine GE.seq ?_
      refine GC.ret ?_
      -- returns, path Ff
      refine GE.ret_tmp (L' := row actE D e ac :: rdr g A c bs pp :: L) (.inl rfl) rfl rfl Wsb ?_
      exact ⟨_, _, _, _, rfl, by omega, by omega, by omega, rfl⟩
theorem sessionOf_spec (w0 : World) (L : List Asn) (g : Nat) (A : Option Addr) (c : Nat) (bs : List Int) (hC : Code0 w0 A c bs) (p : Int) (p0 : 0 ≤ p) (p1 : p ≤ 490000) :
    Tr Try.prog 49 #[.pointer (some ⟨g, 0, none⟩)] w0 (rdr g A c bs p :: L) (fun v L' => ∃ (D : Option Addr) (e : Nat) (ms : List NdM) (B : Option Addr) (d : Nat) (xs : List Int) (E : Option Addr) (f : Nat) (ac : List Act3) (p' : Int), v = .tuple #[.agg #[.slice D ms.length e], .slice B xs.length d, .slice E ac.length f] ∧ 2 ≤ ms.length ∧ ms.length ≤ 10 ∧ (∀ m ∈ ms, m.parts.length ≤ 12) ∧ ms.length ≤ xs.length ∧ xs.length ≤ ms.length + 1 ∧ ac.length ≤ 12 ∧ p ≤ p' ∧ p' ≤ p + 2400 ∧ L' = row nodeE D e ms :: partsA ms :: row intE B d xs :: row actE E f ac :: rdr g A c bs p' :: L) := by
  refine Tr.enter (args := [.pointer (some ⟨g, 0, none⟩)]) Try.func49 Try.ntmps49 rfl rfl ?_
  refine GC.seq ?_
  refine GC.region ?_
  refine GL.alloc rfl ?_; intro g2
  refine GL.v Wag ?_
  refine GL.v Wag ?_
  refine GL.nil ?_
  refine GE.seq ?_
  refine GC.seq ?_
  refine GC.region ?_
  refine GL.v Wmv ?_
  refine GL.callP rfl rfl Wpk (graphOf_spec _ _ _ _ _ _ (by assumption) _ Wom Wom) ?_
  rintro _ _ ⟨D9, e9, ms9, B9, d9, xs9, p9, rfl, ms9a, ms9b, ms9c, xs9a, xs9b, p9a, p9b, rfl⟩
  refine GL.v Wmv ?_
  refine GL.v Wxt ?_
  refine GL.v Wxt ?_
  refine GL.alloc rfl ?_; intro g5
  refine GL.store_varN rfl rfl rfl Wpk (by rfl) (by rfl) (by rfl) ?_
  refine GL.v Wag ?_
  refine GL.nil ?_
  refine GE.seq ?_
  refine GC.seq ?_
  refine GC.region_any #[false, false, false, false, true, true, false, false] mixed ?_
  refine GA.read 0 #[false, true, true, true, true, false, false, false] rfl (by exact Wlba) rfl rfl (by kernel_rfl) rfl (by kernel_rfl) (by kernel_rfl) (fun _ _ _ h => h) ?_
  refine GA.take 1 #[true, false, true, true, true, true, false, false] rfl (by exact Ev.move rfl) rfl rfl (by kernel_rfl) rfl (by kernel_rfl) (by kernel_rfl) (fun _ _ _ h => h) ?_
  refine GA.take 2 #[true, true, false, true, false, false, false, false] rfl (by exact Ev.move rfl) rfl rfl (by kernel_rfl) rfl (by kernel_rfl) (by kernel_rfl) (fun _ _ _ h => h) ?_
  refine GA.read 3 #[true, true, true, false, false, false, false, false] rfl (by exact Wlba) rfl rfl (by kernel_rfl) rfl (by kernel_rfl) (by kernel_rfl) (fun _ _ _ h => h) ?_
  refine GA.branch (rs := [4]) (JOk.live (by exact Wlba) (JOk.live (by exact Wlba) JOk.nil)) (by kernel_rfl) (by simp) ?_
  refine GAs.cons rfl ?_ ?_
  · --  op 4
    refine GL.callP rfl rfl Wpk (someActs_spec _ _ _ _ _ _ (by assumption) _ Wom Wom _ _ _ (by first | assumption | exact RdG.imp (by assumption) Wim | exact RdG.of_pick Wpk Wpk) Wom Wom) ?_
    rintro _ _ ⟨D16, e16, ac16, p16, rfl, ac16a, p16a, p16b, rfl⟩
    refine GL.nil ?_
    refine GE.any ?_
    refine GA.branch (rs := [5]) (JOk.dead (by kernel_rfl) (JOk.live (by exact Wlba) JOk.nil)) (by kernel_rfl) (by simp) ?_
    refine GAs.cons rfl ?_ ?_
    · --  op 5
      refine GL.store_varN rfl rfl rfl Wpk (by rfl) (by rfl) (by rfl) ?_
      refine GL.nil ?_
      refine GE.any ?_
      refine GA.take 6 #[true, true, true, true, true, true, false, false] rfl (by exact Ev.assign rfl) rfl rfl (by kernel_rfl) rfl (by kernel_rfl) (by kernel_rfl) (fun _ _ _ h => h) ?_
      refine GA.take 7 #[true, true, true, true, true, true, true, false] rfl (by exact Ev.assign rfl) rfl rfl (by kernel_rfl) rfl (by kernel_rfl) (by kernel_rfl) (fun _ _ _ h => h) ?_
      refine GA.done (JOk.dead (by kernel_rfl) (JOk.dead (by kernel_rfl) JOk.nil)) (by kernel_rfl) ?_
      refine GE.seq ?_
      refine GC.ret ?_
      -- returns, path 
      refine GE.res3 (L' := row nodeE D9 e9 ms9 :: partsA ms9 :: row intE B9 d9 xs9 :: row actE D16 e16 ac16 :: rdr g A c bs p16 :: L) (.inl rfl) rfl (Res1.cell rfl rfl (BlkRd.of_pick Wpk) (by rfl)) (Res1.tmp rfl) (Res1.tmp rfl) Wsb ?_
      exact ⟨_, _, _, _, _, _, _, _, _, _, rfl, ms9a, ms9b, ms9c, xs9a, xs9b, ac16a, by omega, by omega, rfl⟩
    exact GAs.nil
  exact GAs.nil
theorem DrawValidActs_spec (w0 : World) (L : List Asn) (A : Option Addr) (c : Nat) (bs : List Int) (hR : Rd w0 [] byteE A c bs) (hb : ∀ x ∈ bs, 0 ≤ x ∧ x ≤ 255) (hl : bs.length ≤ 1048576) (hc : bs.length ≤ c) :
    Tr Try.prog 12 #[.slice A bs.length c] w0 L (fun v L' => ∃ (D : Option Addr) (e : Nat) (ms : List NdM) (E : Option Addr) (f : Nat) (ac : List Act3), v = .tuple #[.agg #[.slice D ms.length e], .slice E ac.length f] ∧ 2 ≤ ms.length ∧ ms.length ≤ 10 ∧ (∀ m ∈ ms, m.parts.length ≤ 12) ∧ ac.length ≤ 12 ∧ L' = row nodeE D e ms :: partsA ms :: row actE E f ac :: L) := by
  have hC := Code0.take hR hb
  refine Tr.enter (args := [.slice A bs.length c]) Try.func12 Try.ntmps12 rfl rfl ?_
  refine GC.seq ?_
  refine GC.region ?_
  refine GL.alloc rfl ?_; intro g2
  refine GL.v Wag ?_
  refine GL.nil ?_
  refine GE.seq ?_
  refine GC.seq ?_
  refine GC.region ?_
  refine GL.v Wmv ?_
  refine GL.call rfl rfl (newReader_spec _ _ _ _ _ (by assumption) Wom Wom) ?_
  rintro _ _ ⟨g9, rfl, rfl⟩
  refine GL.callP rfl rfl Wpk (sessionOf_spec _ _ _ _ _ _ (by assumption) _ Wom Wom) ?_
  rintro _ _ ⟨D10, e10, ms10, B10, d10, xs10, E10, f10, ac10, p10, rfl, ms10a, ms10b, ms10c, xs10a, xs10b, ac10a, p10a, p10b, rfl⟩
  refine GL.v Wmv ?_
  refine GL.v Wxt ?_
  refine GL.v Wxt ?_
  refine GL.v Wxt ?_
  refine GL.alloc rfl ?_; intro g4
  refine GL.store_varN rfl rfl rfl Wpk (by rfl) (by rfl) (by rfl) ?_
  refine GL.v Wag ?_
  refine GL.v Wag ?_
  refine GL.nil ?_
  refine GE.seq ?_
  refine GC.seq ?_
  refine GC.region ?_
  refine GL.v Wlba ?_
  refine GL.v Wmv ?_
  refine GL.store_varN rfl rfl rfl Wpk (by rfl) (by rfl) (by rfl) ?_
  refine GL.v Wag ?_
  refine GL.nil ?_
  refine GE.seq ?_
  refine GC.ret ?_
  -- returns, path 
  refine GE.res2 (L' := row nodeE D10 e10 ms10 :: partsA ms10 :: row actE E10 f10 ac10 :: L) (.inl rfl) rfl (Res1.cell rfl rfl (BlkRd.of_pick Wpk) (by rfl)) (Res1.tmp rfl) Wsb ?_
  exact ⟨_, _, _, _, _, _, rfl, ms10a, ms10b, ms10c, ac10a, rfl⟩
theorem DrawFlushesIn_spec (w0 : World) (L : List Asn) (A : Option Addr) (c : Nat) (bs : List Int) (hR : Rd w0 [] byteE A c bs) (hb : ∀ x ∈ bs, 0 ≤ x ∧ x ≤ 255) (hl : bs.length ≤ 1048576) (hc : bs.length ≤ c) :
    Tr Try.prog 21 #[.slice A bs.length c] w0 L (fun v L' => ∃ (D : Option Addr) (e : Nat) (ms : List NdM) (E : Option Addr) (f : Nat) (ac : List Act3), v = .tuple #[.agg #[.slice D ms.length e], .slice E ac.length f] ∧ 2 ≤ ms.length ∧ ms.length ≤ 10 ∧ (∀ m ∈ ms, m.parts.length ≤ 12) ∧ ac.length ≤ 12 ∧ L' = row nodeE D e ms :: partsA ms :: row actE E f ac :: L) := by
  refine Tr.enter (args := [.slice A bs.length c]) Try.func21 Try.ntmps21 rfl rfl ?_
  refine GC.seq ?_
  refine GC.region ?_
  refine GL.alloc rfl ?_; intro g2
  refine GL.v Wag ?_
  refine GL.nil ?_
  refine GE.seq ?_
  refine GC.seq ?_
  refine GC.region ?_
  refine GL.v Wmv ?_
  refine GL.call rfl rfl (DrawValidActs_spec _ _ _ _ _ (by assumption) (by assumption) (by omega) (by omega)) ?_
  rintro _ _ ⟨D5, e5, ms5, E5, f5, ac5, rfl, ms5a, ms5b, ms5c, ac5a, rfl⟩
  have hS5 := SizeG.small ms5b ms5c
  refine GL.v Wxt ?_
  refine GL.v Wxt ?_
  refine GL.store_varN rfl rfl rfl Wpk (by rfl) (by rfl) (by rfl) ?_
  refine GL.v Wag ?_
  refine GL.nil ?_
  refine GE.seq ?_
  refine GC.ret ?_
  -- returns, path 
  refine GE.res2 (L' := row nodeE D5 e5 ms5 :: partsA ms5 :: row actE E5 f5 ac5 :: L) (.inl rfl) rfl (Res1.cell rfl rfl (BlkRd.of_pick Wpk) (by rfl)) (Res1.tmp rfl) Wsb ?_
  exact ⟨_, _, _, _, _, _, rfl, ms5a, ms5b, ms5c, ac5a, rfl⟩
theorem DrawCellsAfter_spec (w0 : World) (L : List Asn) (A : Option Addr) (c : Nat) (bs : List Int) (hR : Rd w0 [] byteE A c bs) (hb : ∀ x ∈ bs, 0 ≤ x ∧ x ≤ 255) (hl : bs.length ≤ 1048576) (hc : bs.length ≤ c) :
    Tr Try.prog 25 #[.slice A bs.length c] w0 L (fun v L' => ∃ (D : Option Addr) (e : Nat) (ms : List NdM) (B : Option Addr) (d : Nat) (xs : List Int) (E : Option Addr) (f : Nat) (ac : List Act3), v = .tuple #[.agg #[.slice D ms.length e], .slice B xs.length d, .slice E ac.length f] ∧ 2 ≤ ms.length ∧ ms.length ≤ 10 ∧ (∀ m ∈ ms, m.parts.length ≤ 12) ∧ ms.length ≤ xs.length ∧ xs.length ≤ ms.length + 1 ∧ ac.length ≤ 12 ∧ L' = row nodeE D e ms :: partsA ms :: row intE B d xs :: row actE E f ac :: L) := by
  have hC := Code0.take hR hb
  refine Tr.enter (args := [.slice A bs.length c]) Try.func25 Try.ntmps25 rfl rfl ?_
  refine GC.seq ?_
  refine GC.region ?_
  refine GL.alloc rfl ?_; intro g2
  refine GL.v Wag ?_
  refine GL.v Wag ?_
  refine GL.nil ?_
  refine GE.seq ?_
  refine GC.seq ?_
  refine GC.region ?_
  refine GL.v Wmv ?_
  refine GL.call rfl rfl (newReader_spec _ _ _ _ _ (by assumption) Wom Wom) ?_
  rintro _ _ ⟨g6, rfl, rfl⟩
  refine GL.callP rfl rfl Wpk (sessionOf_spec _ _ _ _ _ _ (by assumption) _ Wom Wom) ?_
  rintro _ _ ⟨D7, e7, ms7, B7, d7, xs7, E7, f7, ac7, p7, rfl, ms7a, ms7b, ms7c, xs7a, xs7b, ac7a, p7a, p7b, rfl⟩
  refine GL.v Wxt ?_
  refine GL.v Wxt ?_
  refine GL.v Wxt ?_
  refine GL.store_varN rfl rfl rfl Wpk (by rfl) (by rfl) (by rfl) ?_
  refine GL.v Wag ?_
  refine GL.v Wag ?_
  refine GL.nil ?_
  refine GE.seq ?_
  refine GC.ret ?_
  -- returns, path 
  refine GE.res3 (L' := row nodeE D7 e7 ms7 :: partsA ms7 :: row intE B7 d7 xs7 :: row actE E7 f7 ac7 :: L) (.inl rfl) rfl (Res1.cell rfl rfl (BlkRd.of_pick Wpk) (by rfl)) (Res1.tmp rfl) (Res1.tmp rfl) Wsb ?_
  exact ⟨_, _, _, _, _, _, _, _, _, rfl, ms7a, ms7b, ms7c, xs7a, xs7b, ac7a, rfl⟩
end SG
