/- Contracts: the drawn graphs. -/
import Derived.Test.YtllepoepfkobfaaD6
namespace SG
open Go Go.RowKit Go.Proofs
set_option linter.unusedVariables false
set_option linter.unusedSimpArgs false
set_option maxRecDepth 100000
structure GGst where
  A : Option Addr
  c : Nat
  ms : List NdM
  B : Option Addr
  d : Nat
  fl : List Int
  p : Int
theorem goodGraph_spec (w0 : World) (L : List Asn) (g : Nat) (A : Option Addr) (c : Nat) (bs : List Int) (hC : Code0 w0 A c bs) (p : Int) (p0 : 0 ≤ p) (p1 : p ≤ 700000) :
    Tr Try.prog 119 #[.pointer (some ⟨g, 0, none⟩)] w0 (rdr g A c bs p :: L) (fun v L' => ∃ (D : Option Addr) (e : Nat) (ms : List NdM) (p' : Int), v = .agg #[.slice D ms.length e] ∧ 2 ≤ ms.length ∧ ms.length ≤ 10 ∧ (∀ m ∈ ms, m.parts.length ≤ 12) ∧ p ≤ p' ∧ p' ≤ p + 2000 ∧ L' = row nodeE D e ms :: partsA ms :: rdr g A c bs p' :: L) := by
  refine Tr.enter (args := [.pointer (some ⟨g, 0, none⟩)]) Try.func119 Try.ntmps119 rfl rfl ?_
  refine GC.seq ?_
  refine GC.region ?_
  refine GL.alloc rfl ?_; intro g2
  refine GL.nil ?_
  refine GE.seq ?_
  refine GC.seq ?_
  refine GC.region ?_
  refine GL.v (by exact EvP.r (Ev.build rfl (by first | exact bdPart ⟨_, _, _, _, _⟩ | exact bdReader _ _ _ | exact bdPart4 _ _ _ _ | exact bdForm _ _ _ | exact bdForm0 | exact bdGraph0 | exact bdGraph _ _ _ | exact bdNode1 _ | exact bdNode2 _ _ _ _ | exact bdHist0 | exact bdHist1 _ _ _ | exact bdHist2 _ _ _ _))) ?_
  refine GL.alloc rfl ?_; intro g3
  refine GL.store_varN rfl rfl rfl Wpk (by rfl) (by rfl) (by rfl) ?_
  refine GL.nil ?_
  refine GE.seq ?_
  refine GC.seq ?_
  refine GC.region ?_
  refine GL.buildSlice rfl (by first | exact bsInt0 | exact bsInt1 _ | exact bsInt2 _ _ | exact bsInt3 _ _ _ | exact bsInt4 _ _ _ _ | exact bsInt5 _ _ _ _ _ | exact bsInt6 _ _ _ _ _ _ | exact bsInt7 _ _ _ _ _ _ _ | exact bsInt8 _ _ _ _ _ _ _ _ | exact bsInt9 _ _ _ _ _ _ _ _ _ | exact bsInt10 _ _ _ _ _ _ _ _ _ _ | exact bsPart0 | exact bsPart1 ⟨_, _, _, _, _⟩ | exact bsNode1 ⟨_, _, _, _⟩ | exact bsPtr3 _ _ _ | exact bsSl0 | exact bsSl1 ⟨_, _, _⟩) rfl (by decide) rfl ?_; intro g10
  refine GL.v Wag ?_
  refine GL.nil ?_
  refine GE.seq ?_
  refine GC.seq ?_
  refine GC.region ?_
  refine GL.v Wmv ?_
  refine GL.buildSlice rfl (by first | exact bsInt0 | exact bsInt1 _ | exact bsInt2 _ _ | exact bsInt3 _ _ _ | exact bsInt4 _ _ _ _ | exact bsInt5 _ _ _ _ _ | exact bsInt6 _ _ _ _ _ _ | exact bsInt7 _ _ _ _ _ _ _ | exact bsInt8 _ _ _ _ _ _ _ _ | exact bsInt9 _ _ _ _ _ _ _ _ _ | exact bsInt10 _ _ _ _ _ _ _ _ _ _ | exact bsPart0 | exact bsPart1 ⟨_, _, _, _, _⟩ | exact bsNode1 ⟨_, _, _, _⟩ | exact bsPtr3 _ _ _ | exact bsSl0 | exact bsSl1 ⟨_, _, _⟩) rfl (by decide) rfl ?_; intro g12
  refine GL.front (A := rdr _ _ _ _ _) Wpk ?_
  refine GL.call rfl rfl (one_spec _ _ _ _ _ _ (by assumption) _ (by omega) (by omega) _ _ _ (by first | exact Rd.of_pick Wpk | exact Rd.imp (by assumption) Wim) _ (by rfl) (by first | omega | (simp; done) | (simp; omega)) (by first | omega | (simp; done) | (simp; omega))) ?_
  rintro _ _ ⟨x13, rfl, x13m, rfl⟩
  refine GL.v Wag ?_
  refine GL.nil ?_
  refine GE.seq ?_
  refine GC.seq ?_
  refine GC.seq ?_
  refine GC.region ?_
  refine GL.v Wag ?_
  refine GL.nil ?_
  refine GE.seq ?_
  refine GC.block ?_
  -- loop 1: carried slots [4, 6]
  have hx13 : 2 ≤ x13 ∧ x13 ≤ 10 := by simp at x13m; omega
  refine GC.parts0 ?_
  refine GC.row0 nodeE none ?_
  refine GC.loopK (α := GGst) (fun s => (s.ms.length : Int) ≤ x13 ∧ s.fl.length ≤ s.ms.length ∧ (∀ m ∈ s.ms, m.parts.length ≤ 12) ∧ p + 1 ≤ s.p ∧ s.p ≤ p + 1 + 110 * s.ms.length) (fun s => [(4, .slice s.B s.fl.length s.d), (6, .int .i64 s.ms.length)]) [(0, _), (2, _), (3, _), (5, _)] (fun s => row nodeE s.A s.c s.ms :: partsA s.ms :: row intE s.B s.d s.fl :: blk g3 25 [.slice s.A s.ms.length s.c] :: blk g2 25 [.slice none 0 0] :: rdr g A c bs s.p :: L) (fun s => 10 - s.ms.length) ⟨none, 0, [], some ⟨g10, 0, none⟩, 0, [], p + 1⟩ Wkp Wsb ⟨by simp; omega, Nat.le_refl _, by simp, by dsimp only; omega, by simp⟩ ?_
  rintro ⟨D, e, ms, B, d, fl, pp⟩ ⟨hm1, hm2, hm3, hp1, hp2⟩
  dsimp only at hm1 hm2 hm3 hp1 hp2 ⊢
  refine GC.seq ?_
  refine GC.seq ?_
  refine GC.region ?_
  refine GL.v Wmv ?_
  refine GL.v Wmv ?_
  refine GL.v Wls ?_
  refine GL.nil ?_
  refine GE.seq ?_
  refine GC.ifs (fun h1 => ?_) (fun h1 => ?_)
  · -- T
    refine GC.skip ?_
    refine GE.seq ?_
    refine GC.seq ?_
    refine GC.block ?_
    refine GC.seq ?_
    refine GC.region ?_
    refine GL.v (by exact EvP.r (Ev.build rfl (by first | exact bdPart ⟨_, _, _, _, _⟩ | exact bdReader _ _ _ | exact bdPart4 _ _ _ _ | exact bdForm _ _ _ | exact bdForm0 | exact bdGraph0 | exact bdGraph _ _ _ | exact bdNode1 _ | exact bdNode2 _ _ _ _ | exact bdHist0 | exact bdHist1 _ _ _ | exact bdHist2 _ _ _ _))) ?_
    refine GL.alloc rfl ?_; intro g7
    refine GL.store_varN rfl rfl rfl Wpk (by rfl) (by rfl) (by rfl) ?_
    refine GL.nil ?_
    refine GE.seq ?_
    -- midseq 8: carried slots []
    refine GC.seq_mid (β := Int × Int) (fun b => pp ≤ b.1 ∧ b.1 ≤ pp + 2) (fun b => []) [(0, _), (2, _), (3, _), (4, _), (5, _), (6, _), (7, _)] (fun b => blk g7 71 [.int .i64 b.2, .slice none 0 0] :: row nodeE D e ms :: partsA ms :: row intE B d fl :: blk g3 25 [.slice D ms.length e] :: blk g2 25 [.slice none 0 0] :: rdr g A c bs b.1 :: L) Wkp ?_ ?_
    ·
      refine GC.seq ?_
      refine GC.region ?_
      refine GL.v Wmv ?_
      refine GL.v Wgt ?_
      refine GL.v Wmv ?_
      refine GL.gs (fun h2 => ?_) (fun h2 => ?_)
      · -- Tt
        refine GL.unwant rfl rfl rfl rfl ?_
        refine GL.unwant rfl rfl rfl rfl ?_
        refine GL.unwant rfl rfl rfl rfl ?_
        refine GL.v Wpt ?_
        refine GL.nil ?_
        refine GE.seq ?_
        refine GC.cond_true rfl ?_
        refine GC.region ?_
        refine GL.v Wmv ?_
        refine GL.buildSlice rfl (by first | exact bsInt0 | exact bsInt1 _ | exact bsInt2 _ _ | exact bsInt3 _ _ _ | exact bsInt4 _ _ _ _ | exact bsInt5 _ _ _ _ _ | exact bsInt6 _ _ _ _ _ _ | exact bsInt7 _ _ _ _ _ _ _ | exact bsInt8 _ _ _ _ _ _ _ _ | exact bsInt9 _ _ _ _ _ _ _ _ _ | exact bsInt10 _ _ _ _ _ _ _ _ _ _ | exact bsPart0 | exact bsPart1 ⟨_, _, _, _, _⟩ | exact bsNode1 ⟨_, _, _, _⟩ | exact bsPtr3 _ _ _ | exact bsSl0 | exact bsSl1 ⟨_, _, _⟩) rfl (by decide) rfl ?_; intro g28
        refine GL.front (A := rdr _ _ _ _ _) Wpk ?_
        refine GL.call rfl rfl (one_spec _ _ _ _ _ _ (by assumption) _ (by omega) (by omega) _ _ _ (by first | exact Rd.of_pick Wpk | exact Rd.imp (by assumption) Wim) _ (by rfl) (by first | omega | (simp; done) | (simp; omega)) (by first | omega | (simp; done) | (simp; omega))) ?_
        rintro _ _ ⟨x29, rfl, x29m, rfl⟩
        refine GL.v Wfa ?_
        refine GL.store_blk rfl rfl rfl Wpk (Nat.lt_of_lt_of_le (Nat.le_of_ble_eq_true (by rfl)) (Nat.le_refl _)) (by rfl) (by rfl) ?_
        refine GL.nil ?_
        refine GE.mid ((_, _) : Int × Int) ?_ Wkp Wsb
        exact ⟨by dsimp only; omega, by dsimp only; omega⟩
      · -- Tf
        refine GL.want rfl rfl ?_
        refine GL.v Wmv ?_
        refine GL.want rfl rfl ?_
        refine GL.front (A := rdr _ _ _ _ _) Wpk ?_
        refine GL.call rfl rfl (pick_spec _ _ _ _ _ _ (by assumption) _ _ (by omega) (by omega) (by omega) (by omega)) ?_
        rintro _ _ ⟨x24, rfl, x24a, x24b, x24c, rfl⟩
        refine GL.want rfl rfl ?_
        refine GL.v Weq ?_
        refine GL.v Wpf ?_
        refine GL.nil ?_
        refine GE.seq ?_
        refine GC.ifs (fun h3 => ?_) (fun h3 => ?_)
        · -- TfT
          refine GC.region ?_
          refine GL.v Wmv ?_
          refine GL.buildSlice rfl (by first | exact bsInt0 | exact bsInt1 _ | exact bsInt2 _ _ | exact bsInt3 _ _ _ | exact bsInt4 _ _ _ _ | exact bsInt5 _ _ _ _ _ | exact bsInt6 _ _ _ _ _ _ | exact bsInt7 _ _ _ _ _ _ _ | exact bsInt8 _ _ _ _ _ _ _ _ | exact bsInt9 _ _ _ _ _ _ _ _ _ | exact bsInt10 _ _ _ _ _ _ _ _ _ _ | exact bsPart0 | exact bsPart1 ⟨_, _, _, _, _⟩ | exact bsNode1 ⟨_, _, _, _⟩ | exact bsPtr3 _ _ _ | exact bsSl0 | exact bsSl1 ⟨_, _, _⟩) rfl (by decide) rfl ?_; intro g28
          refine GL.front (A := rdr _ _ _ _ _) Wpk ?_
          refine GL.call rfl rfl (one_spec _ _ _ _ _ _ (by assumption) _ (by omega) (by omega) _ _ _ (by first | exact Rd.of_pick Wpk | exact Rd.imp (by assumption) Wim) _ (by rfl) (by first | omega | (simp; done) | (simp; omega)) (by first | omega | (simp; done) | (simp; omega))) ?_
          rintro _ _ ⟨x29, rfl, x29m, rfl⟩
          refine GL.v Wfa ?_
          refine GL.store_blk rfl rfl rfl Wpk (Nat.lt_of_lt_of_le (Nat.le_of_ble_eq_true (by rfl)) (Nat.le_refl _)) (by rfl) (by rfl) ?_
          refine GL.nil ?_
          refine GE.mid ((_, _) : Int × Int) ?_ Wkp Wsb
          exact ⟨by dsimp only; omega, by dsimp only; omega⟩
        · -- TfF
          refine GC.skip ?_
          refine GE.mid ((_, _) : Int × Int) ?_ Wkp Wsb
          exact ⟨by dsimp only; omega, by dsimp only; omega⟩
    ·
      rintro ⟨p2, k⟩ ⟨hp3, hp4⟩
      dsimp only at hp3 hp4 ⊢
      -- midseq 10: carried slots []
      refine GC.seq_mid (β := Int × FoM) (fun b => p2 ≤ b.1 ∧ b.1 ≤ p2 + 102 ∧ b.2.parts.length ≤ 12) (fun b => []) [(0, _), (2, _), (3, _), (4, _), (5, _), (6, _), (7, _)] (fun b => blk g7 71 [.int .i64 k, .slice b.2.a b.2.parts.length b.2.c] :: row partE b.2.a b.2.c b.2.parts :: row nodeE D e ms :: partsA ms :: row intE B d fl :: blk g3 25 [.slice D ms.length e] :: blk g2 25 [.slice none 0 0] :: rdr g A c bs b.1 :: L) Wkp ?_ ?_
      ·
        refine GC.seq ?_
        refine GC.region ?_
        refine GL.v Wfa ?_
        refine GL.v Wlb ?_
        refine GL.v Wnq ?_
        refine GL.nil ?_
        refine GE.seq ?_
        refine GC.ifs (fun h2 => ?_) (fun h2 => ?_)
        · -- TT
          refine GC.seq ?_
          refine GC.region ?_
          refine GL.v Wmv ?_
          refine GL.v Wag ?_
          refine GL.nil ?_
          refine GE.seq ?_
          refine GC.seq ?_
          refine GC.seq ?_
          refine GC.region ?_
          refine GL.v Wmv ?_
          refine GL.v Wln ?_
          refine GL.v Wgt ?_
          refine GL.v Wmv ?_
          refine GL.gs (fun h3 => ?_) (fun h3 => ?_)
          · -- TTt
            refine GL.want rfl rfl ?_
            refine GL.v Wmv ?_
            refine GL.want rfl rfl ?_
            refine GL.front (A := rdr _ _ _ _ _) Wpk ?_
            refine GL.call rfl rfl (pick_spec _ _ _ _ _ _ (by assumption) _ _ (by omega) (by omega) (by omega) (by omega)) ?_
            rintro _ _ ⟨x40, rfl, x40a, x40b, x40c, rfl⟩
            refine GL.want rfl rfl ?_
            refine GL.v Weq ?_
            refine GL.v Wpt ?_
            refine GL.nil ?_
            refine GE.seq ?_
            refine GC.ifs (fun h4 => ?_) (fun h4 => ?_)
            · -- TTtT
              refine GC.region ?_
              refine GL.v Wmv ?_
              refine GL.v Wmv ?_
              refine GL.v Wln ?_
              refine GL.v Wsu ?_
              refine GL.v (by exact EvP.r (Ev.cut_from rfl rfl Wik (by omega))) ?_
              refine GL.v Wag ?_
              refine GL.nil ?_
              refine GE.seq ?_
              refine GC.region ?_
              refine GL.v Wmv ?_
              refine GL.v Wmv ?_
              refine GL.callP rfl rfl Wpk (goodFormula_spec _ _ _ _ _ _ (by assumption) _ (by omega) (by omega) _ _ _ (by first | exact Rd.of_pick Wpk | exact (Rd.of_pick Wpk).drop _) _ Wom Wom) ?_
              rintro _ _ ⟨D50, e50, fp50, p50, rfl, fp50a, fp50b, p50a, p50b, rfl⟩
              refine GL.v Wfa ?_
              refine GL.store_blk rfl rfl rfl Wpk (Nat.lt_of_lt_of_le (Nat.le_of_ble_eq_true (by rfl)) (Nat.le_refl _)) (by rfl) (by rfl) ?_
              refine GL.nil ?_
              first | (refine GE.mid ((_, ⟨D50, e50, fp50⟩) : Int × FoM) ?_ Wkp Wsb; exact ⟨by dsimp only; omega, by dsimp only; omega, by dsimp only; omega⟩) | (refine GE.state (fun _ hs => hs.empty partE none) ?_; refine GE.mid ((_, ⟨none, 0, []⟩) : Int × FoM) ?_ Wkp Wsb; exact ⟨by dsimp only; omega, by dsimp only; omega, by simp⟩)
            · -- TTtF
              refine GC.skip ?_
              refine GE.seq ?_
              refine GC.region ?_
              refine GL.v Wmv ?_
              refine GL.v Wmv ?_
              refine GL.callP rfl rfl Wpk (goodFormula_spec _ _ _ _ _ _ (by assumption) _ (by omega) (by omega) _ _ _ (by first | exact Rd.of_pick Wpk | exact (Rd.of_pick Wpk).drop _) _ Wom Wom) ?_
              rintro _ _ ⟨D50, e50, fp50, p50, rfl, fp50a, fp50b, p50a, p50b, rfl⟩
              refine GL.v Wfa ?_
              refine GL.store_blk rfl rfl rfl Wpk (Nat.lt_of_lt_of_le (Nat.le_of_ble_eq_true (by rfl)) (Nat.le_refl _)) (by rfl) (by rfl) ?_
              refine GL.nil ?_
              first | (refine GE.mid ((_, ⟨D50, e50, fp50⟩) : Int × FoM) ?_ Wkp Wsb; exact ⟨by dsimp only; omega, by dsimp only; omega, by dsimp only; omega⟩) | (refine GE.state (fun _ hs => hs.empty partE none) ?_; refine GE.mid ((_, ⟨none, 0, []⟩) : Int × FoM) ?_ Wkp Wsb; exact ⟨by dsimp only; omega, by dsimp only; omega, by simp⟩)
          · -- TTf
            refine GL.unwant rfl rfl rfl rfl ?_
            refine GL.unwant rfl rfl rfl rfl ?_
            refine GL.unwant rfl rfl rfl rfl ?_
            refine GL.v Wpf ?_
            refine GL.nil ?_
            refine GE.seq ?_
            refine GC.cond_false rfl ?_
            refine GC.skip ?_
            refine GE.seq ?_
            refine GC.region ?_
            refine GL.v Wmv ?_
            refine GL.v Wmv ?_
            refine GL.callP rfl rfl Wpk (goodFormula_spec _ _ _ _ _ _ (by assumption) _ (by omega) (by omega) _ _ _ (by first | exact Rd.of_pick Wpk | exact (Rd.of_pick Wpk).drop _) _ Wom Wom) ?_
            rintro _ _ ⟨D50, e50, fp50, p50, rfl, fp50a, fp50b, p50a, p50b, rfl⟩
            refine GL.v Wfa ?_
            refine GL.store_blk rfl rfl rfl Wpk (Nat.lt_of_lt_of_le (Nat.le_of_ble_eq_true (by rfl)) (Nat.le_refl _)) (by rfl) (by rfl) ?_
            refine GL.nil ?_
            first | (refine GE.mid ((_, ⟨D50, e50, fp50⟩) : Int × FoM) ?_ Wkp Wsb; exact ⟨by dsimp only; omega, by dsimp only; omega, by dsimp only; omega⟩) | (refine GE.state (fun _ hs => hs.empty partE none) ?_; refine GE.mid ((_, ⟨none, 0, []⟩) : Int × FoM) ?_ Wkp Wsb; exact ⟨by dsimp only; omega, by dsimp only; omega, by simp⟩)
        · -- TF
          refine GC.skip ?_
          first | (refine GE.mid ((_, ⟨D50, e50, fp50⟩) : Int × FoM) ?_ Wkp Wsb; exact ⟨by dsimp only; omega, by dsimp only; omega, by dsimp only; omega⟩) | (refine GE.state (fun _ hs => hs.empty partE none) ?_; refine GE.mid ((_, ⟨none, 0, []⟩) : Int × FoM) ?_ Wkp Wsb; exact ⟨by dsimp only; omega, by dsimp only; omega, by simp⟩)
      ·
        rintro ⟨p3, ⟨fa, fc, fp⟩⟩ ⟨hp5, hp6, hfp⟩
        dsimp only at hp5 hp6 hfp ⊢
        refine GC.seq ?_
        refine GC.region ?_
        refine GL.v Wfa ?_
        refine GL.v Wlb ?_
        refine GL.v Wlba ?_
        refine GL.buildSlice rfl (by first | exact bsInt0 | exact bsInt1 _ | exact bsInt2 _ _ | exact bsInt3 _ _ _ | exact bsInt4 _ _ _ _ | exact bsInt5 _ _ _ _ _ | exact bsInt6 _ _ _ _ _ _ | exact bsInt7 _ _ _ _ _ _ _ | exact bsInt8 _ _ _ _ _ _ _ _ | exact bsInt9 _ _ _ _ _ _ _ _ _ | exact bsInt10 _ _ _ _ _ _ _ _ _ _ | exact bsPart0 | exact bsPart1 ⟨_, _, _, _, _⟩ | exact bsNode1 ⟨_, _, _, _⟩ | exact bsPtr3 _ _ _ | exact bsSl0 | exact bsSl1 ⟨_, _, _⟩) rfl (by decide) rfl ?_; intro g55
        first | (refine GL.append rfl rfl Wpk (by assumption) Wim (by first | rfl | (simp; done) | (simp; omega)) (by first | rfl | (simp; done) | (simp; omega)) (by first | omega | (simp; omega)) (by first | omega | (simp; omega)) rfl ?_; intro A56 c56) | (refine GL.append rfl rfl Wpk (Rd.of_pick Wpk) Imp.refl (by first | rfl | (simp; done) | (simp; omega)) (by first | rfl | (simp; done) | (simp; omega)) (by first | omega | (simp; omega)) (by first | omega | (simp; omega)) rfl ?_; intro A56 c56)
        refine GL.v Wfa ?_
        refine GL.store_blk rfl rfl rfl Wpk (Nat.lt_of_lt_of_le (Nat.le_of_ble_eq_true (by rfl)) (Nat.le_refl _)) (by rfl) (by rfl) ?_
        refine GL.nil ?_
        refine GE.seq ?_
        refine GC.seq ?_
        refine GC.region ?_
        refine GL.v Wfa ?_
        refine GL.v Wlb ?_
        refine GL.v Wnq ?_
        refine GL.nil ?_
        refine GE.seq ?_
        refine GC.ifs (fun h2 => ?_) (fun h2 => ?_)
        · -- TT
          refine GC.region ?_
          refine GL.v Wmv ?_
          refine GL.v Wmv ?_
          refine GL.buildSlice rfl (by first | exact bsInt0 | exact bsInt1 _ | exact bsInt2 _ _ | exact bsInt3 _ _ _ | exact bsInt4 _ _ _ _ | exact bsInt5 _ _ _ _ _ | exact bsInt6 _ _ _ _ _ _ | exact bsInt7 _ _ _ _ _ _ _ | exact bsInt8 _ _ _ _ _ _ _ _ | exact bsInt9 _ _ _ _ _ _ _ _ _ | exact bsInt10 _ _ _ _ _ _ _ _ _ _ | exact bsPart0 | exact bsPart1 ⟨_, _, _, _, _⟩ | exact bsNode1 ⟨_, _, _, _⟩ | exact bsPtr3 _ _ _ | exact bsSl0 | exact bsSl1 ⟨_, _, _⟩) rfl (by decide) rfl ?_; intro g63
          first | (refine GL.append rfl rfl Wpk (by assumption) Wim (by first | rfl | (simp; done) | (simp; omega)) (by first | rfl | (simp; done) | (simp; omega)) (by first | omega | (simp; omega)) (by first | omega | (simp; omega)) rfl ?_; intro A64 c64) | (refine GL.append rfl rfl Wpk (Rd.of_pick Wpk) Imp.refl (by first | rfl | (simp; done) | (simp; omega)) (by first | rfl | (simp; done) | (simp; omega)) (by first | omega | (simp; omega)) (by first | omega | (simp; omega)) rfl ?_; intro A64 c64)
          refine GL.v Wag ?_
          refine GL.nil ?_
          refine GE.block ?_
          refine GE.seq ?_
          refine GC.region ?_
          refine GL.v Wmv ?_
          refine GL.v Wad ?_
          refine GL.v Wag ?_
          refine GL.nil ?_
          -- round of loop 1, path TT
          refine GE.parts_snoc ⟨k, fa, fc, fp⟩ Wpk Wpk ?_
          rw [show ((ms.length : Int) + 1) = (((ms ++ [(⟨k, fa, fc, fp⟩ : NdM)]).length : Nat) : Int) from by simp]
          refine GE.round ⟨_, _, ms ++ [⟨k, fa, fc, fp⟩], _, _, _, _⟩ ?_ ?_ Wkp Wsb
          · refine ⟨by simp; omega, by simp; omega, fun m hm => ?_, by dsimp only; omega, by simp; omega⟩
            rcases List.mem_append.1 hm with hm | hm
            · exact hm3 m hm
            · simp only [List.mem_singleton] at hm; subst hm; exact hfp
          · simp; omega
        · -- TF
          refine GC.skip ?_
          refine GE.block ?_
          refine GE.seq ?_
          refine GC.region ?_
          refine GL.v Wmv ?_
          refine GL.v Wad ?_
          refine GL.v Wag ?_
          refine GL.nil ?_
          -- round of loop 1, path TF
          refine GE.parts_snoc ⟨k, fa, fc, fp⟩ Wpk Wpk ?_
          rw [show ((ms.length : Int) + 1) = (((ms ++ [(⟨k, fa, fc, fp⟩ : NdM)]).length : Nat) : Int) from by simp]
          refine GE.round ⟨_, _, ms ++ [⟨k, fa, fc, fp⟩], _, _, _, _⟩ ?_ ?_ Wkp Wsb
          · refine ⟨by simp; omega, by simp; omega, fun m hm => ?_, by dsimp only; omega, by simp; omega⟩
            rcases List.mem_append.1 hm with hm | hm
            · exact hm3 m hm
            · simp only [List.mem_singleton] at hm; subst hm; exact hfp
          · simp; omega
  · -- F
    refine GC.exit ?_
    refine GE.seq_exit ?_
    refine GE.loop_exit ?_
    refine GE.block_exit ?_
    refine GE.seq ?_
    refine GC.seq ?_
    refine GC.region ?_
    refine GL.v Wlba ?_
    refine GL.store_varN rfl rfl rfl Wpk (by rfl) (by rfl) (by rfl) ?_
    refine GL.nil ?_
    refine GE.seq ?_
    refine GC.ret ?_
    -- returns, path F
    refine GE.ret_cell (L' := row nodeE D e ms :: partsA ms :: rdr g A c bs pp :: L) (.inl rfl) rfl rfl rfl (BlkRd.of_pick Wpk) (by rfl) Wsb ?_
    exact ⟨D, e, ms, pp, rfl, by omega, by omega, hm3, by omega, by omega, rfl⟩
theorem partsA_set {w0 w : World} {L L1 : List Asn} {ms : List NdM} {i : Nat} (h : i < ms.length) (m : NdM) (p : Pick L m.rowA L1) {L2 : List Asn} (q : Pick L1 (partsA ms) L2) (hs : St w0 w L) : St w0 w (partsA (ms.set i m) :: L2) := by
  have h1 := ((hs.pick p).pick (.tail q)).flat
  have e : ms = ms.take i ++ ms[i] :: ms.drop (i + 1) := by rw [List.getElem_cons_drop, List.take_append_drop]
  have e2 : ms.set i m = ms.take i ++ m :: ms.drop (i + 1) := by rw [List.set_eq_take_append_cons_drop]; simp [h]
  refine St.fold (L' := (ms.set i m).map NdM.rowA) ?_
  rw [e2, List.map_append, List.map_cons]
  rw [e, List.map_append, List.map_cons] at h1
  -- h1: (xs ++ r :: ys) ++ m.rowA :: L2
  have p1 : Pick (((ms.take i).map NdM.rowA ++ ms[i].rowA :: (ms.drop (i + 1)).map NdM.rowA) ++ m.rowA :: L2) ms[i].rowA (((ms.take i).map NdM.rowA ++ (ms.drop (i + 1)).map NdM.rowA) ++ m.rowA :: L2) :=
    Pick.app_left (Pick.app_right .head _)
  have h2 := (h1.pick p1).drop
  have p2 : Pick (((ms.take i).map NdM.rowA ++ (ms.drop (i + 1)).map NdM.rowA) ++ m.rowA :: L2) m.rowA (((ms.take i).map NdM.rowA ++ (ms.drop (i + 1)).map NdM.rowA) ++ L2) := Pick.app_right .head _
  have h3 := h2.pick p2
  have p3 : Pick (((ms.take i).map NdM.rowA ++ m.rowA :: (ms.drop (i + 1)).map NdM.rowA) ++ L2) m.rowA (((ms.take i).map NdM.rowA ++ (ms.drop (i + 1)).map NdM.rowA) ++ L2) := Pick.app_left (Pick.app_right .head _)
  exact h3.back p3
theorem GE.parts_set {P : Program} {Q : Exit → Act → World → Prop} {w0 : World} {N : Nat} {fs : List Kf} {F : Env} {L L1 L2 : List Asn} {e : Exit} {ms : List NdM} (i : Nat) (m : NdM) (hi : i < ms.length) (p : Pick L m.rowA L1) (q : Pick L1 (partsA ms) L2) (h : GE P Q w0 N fs e F (partsA (ms.set i m) :: L2)) : GE P Q w0 N fs e F L :=
  GE.state (fun w hs => partsA_set hi m p q hs) h
/-- the same formulas -/
theorem GE.parts_same {P : Program} {Q : Exit → Act → World → Prop} {w0 : World} {N : Nat} {fs : List Kf} {F : Env} {L L1 : List Asn} {e : Exit} {ms ms' : List NdM} (he : ms'.map NdM.rowA = ms.map NdM.rowA) (p : Pick L (partsA ms) L1) (h : GE P Q w0 N fs e F (partsA ms' :: L1)) : GE P Q w0 N fs e F L :=
  GE.state (fun w hs => by have := hs.pick p; unfold partsA at this ⊢; rwa [he]) h
def NdM.setKind (m : NdM) (k : Int) : NdM := { m with kind := k }
theorem rowA_setKind (ms : List NdM) (i : Nat) (h : i < ms.length) (k : Int) : (ms.set i (ms[i].setKind k)).map NdM.rowA = ms.map NdM.rowA := by
  rw [List.map_set]
  have : (ms[i].setKind k).rowA = (ms.map NdM.rowA)[i]'(by simpa using h) := by simp [NdM.setKind, NdM.rowA]
  rw [this, List.set_getElem_self]
theorem someGraph_spec (w0 : World) (L : List Asn) (g : Nat) (A : Option Addr) (c : Nat) (bs : List Int) (hC : Code0 w0 A c bs) (p : Int) (p0 : 0 ≤ p) (p1 : p ≤ 600000) :
    Tr Try.prog 98 #[.pointer (some ⟨g, 0, none⟩)] w0 (rdr g A c bs p :: L) (fun v L' => ∃ (D : Option Addr) (e : Nat) (ms : List NdM) (p' : Int), v = .agg #[.slice D ms.length e] ∧ 2 ≤ ms.length ∧ ms.length ≤ 10 ∧ (∀ m ∈ ms, m.parts.length ≤ 12) ∧ p ≤ p' ∧ p' ≤ p + 2200 ∧ L' = row nodeE D e ms :: partsA ms :: rdr g A c bs p' :: L) := by
  refine Tr.enter (args := [.pointer (some ⟨g, 0, none⟩)]) Try.func98 Try.ntmps98 rfl rfl ?_
  refine GC.seq ?_
  refine GC.region ?_
  refine GL.alloc rfl ?_; intro g2
  refine GL.nil ?_
  refine GE.seq ?_
  refine GC.seq ?_
  refine GC.region ?_
  refine GL.v Wmv ?_
  refine GL.callP rfl rfl Wpk (goodGraph_spec _ _ _ _ _ _ (by assumption) _ Wom Wom) ?_
  rintro _ _ ⟨D6, e6, ms6, p6, rfl, ms6a, ms6b, ms6c, p6a, p6b, rfl⟩
  refine GL.alloc rfl ?_; intro g3
  refine GL.store_varN rfl rfl rfl Wpk (by rfl) (by rfl) (by rfl) ?_
  refine GL.nil ?_
  refine GE.seq ?_
  refine GC.seq ?_
  refine GC.region ?_
  refine GL.v Wmv ?_
  refine GL.v Wfa ?_
  refine GL.v Wlb ?_
  refine GL.v Wln ?_
  refine GL.front (A := rdr _ _ _ _ _) Wpk ?_
  refine GL.call rfl rfl (pick_spec _ _ _ _ _ _ (by assumption) _ _ (by omega) (by omega) (by omega) (by omega)) ?_
  rintro _ _ ⟨x11, rfl, x11a, x11b, x11c, rfl⟩
  have hlt := x11b (by omega)
  have hx11 : x11.toNat < ms6.length := by omega
  refine GL.v Wag ?_
  refine GL.nil ?_
  refine GE.seq ?_
  refine GC.seq ?_
  refine GC.seq ?_
  refine GC.region ?_
  refine GL.v Wmv ?_
  refine GL.front (A := rdr _ _ _ _ _) Wpk ?_
  refine GL.call rfl rfl (pick_spec _ _ _ _ _ _ (by assumption) _ _ (by omega) (by omega) (by omega) (by omega)) ?_
  rintro _ _ ⟨x13, rfl, x13a, x13b, x13c, rfl⟩
  refine GL.nil ?_
  refine GE.seq ?_
  refine GC.block ?_
  refine GC.seq ?_
  refine GC.region ?_
  refine GL.v Weq ?_
  refine GL.v Wag ?_
  refine GL.nil ?_
  refine GE.seq ?_
  refine GC.ifs (fun h1 => ?_) (fun h1 => ?_)
  · -- T
    refine GC.region_any #[false, false, false, false, true, true, false, false, true] mixed ?_
    refine GA.take 0 #[false, false, true, true, true, true, false, false, false] rfl (by exact Ev.fieldAddr rfl) rfl rfl (by kernel_rfl) rfl (by kernel_rfl) (by kernel_rfl) (fun _ _ _ h => h) ?_
    refine GA.read 1 #[true, false, true, true, true, true, false, false, false] rfl (by exact Wlb) rfl rfl (by kernel_rfl) rfl (by kernel_rfl) (by kernel_rfl) (fun _ _ _ h => h) ?_
    refine GA.take 2 #[true, true, false, true, true, true, false, false, false] rfl (by exact Ev.move rfl) rfl rfl (by kernel_rfl) rfl (by kernel_rfl) (by kernel_rfl) (fun _ _ _ h => h) ?_
    refine GA.take 3 #[true, true, true, false, true, false, false, false, false] rfl (by exact Ev.move rfl) rfl rfl (by kernel_rfl) rfl (by kernel_rfl) (by kernel_rfl) (fun _ _ _ h => h) ?_
    refine GA.branch (rs := [4]) (JOk.live (by exact Wlb) JOk.nil) (by kernel_rfl) (by simp) ?_
    refine GAs.cons rfl ?_ ?_
    · -- T op 4
      refine GL.buildSlice rfl (by first | exact bsInt0 | exact bsInt1 _ | exact bsInt2 _ _ | exact bsInt3 _ _ _ | exact bsInt4 _ _ _ _ | exact bsInt5 _ _ _ _ _ | exact bsInt6 _ _ _ _ _ _ | exact bsInt7 _ _ _ _ _ _ _ | exact bsInt8 _ _ _ _ _ _ _ _ | exact bsInt9 _ _ _ _ _ _ _ _ _ | exact bsInt10 _ _ _ _ _ _ _ _ _ _ | exact bsPart0 | exact bsPart1 ⟨_, _, _, _, _⟩ | exact bsNode1 ⟨_, _, _, _⟩ | exact bsPtr3 _ _ _ | exact bsSl0 | exact bsSl1 ⟨_, _, _⟩) rfl (by decide) rfl ?_; intro g20
      refine GL.nil ?_
      refine GE.any ?_
      refine GA.branch (rs := [5]) (JOk.live (by exact Wlb) JOk.nil) (by kernel_rfl) (by simp) ?_
      refine GAs.cons rfl ?_ ?_
      · -- T op 5
        refine GL.front (A := rdr _ _ _ _ _) Wpk ?_
        refine GL.call rfl rfl (one_spec _ _ _ _ _ _ (by assumption) _ (by omega) (by omega) _ _ _ (by first | exact Rd.of_pick Wpk | exact Rd.imp (by assumption) Wim) _ (by rfl) (by first | omega | (simp; done) | (simp; omega)) (by first | omega | (simp; done) | (simp; omega))) ?_
        rintro _ _ ⟨x21, rfl, x21m, rfl⟩
        refine GL.nil ?_
        refine GE.any ?_
        refine GA.read 6 #[true, true, true, true, true, true, false, false, false] rfl (by exact Wix) rfl rfl (by kernel_rfl) rfl (by kernel_rfl) (by kernel_rfl) (fun _ _ _ h => h) ?_
        refine GA.take 7 #[true, true, true, true, true, true, true, false, false] rfl (by exact Ev.fieldAddr rfl) rfl rfl (by kernel_rfl) rfl (by kernel_rfl) (by kernel_rfl) (fun _ _ _ h => h) ?_
        refine GA.branch (rs := [8]) (JOk.live (by exact Wix) (JOk.live (by exact Wlb) JOk.nil)) (by kernel_rfl) (by simp) ?_
        refine GAs.cons rfl ?_ ?_
        · -- T op 8
          refine GL.store_el_cell (ms6[x11.toNat].setKind x21) (u := .int .i64 x21) rfl rfl Wpk rfl rfl Wom (by decide) rfl ?_
          refine GL.nil ?_
          refine GE.any ?_
          refine GA.done (JOk.dead (by kernel_rfl) (JOk.dead (by kernel_rfl) JOk.nil)) (by kernel_rfl) ?_
          refine GE.block ?_
          refine GE.seq ?_
          refine GC.seq ?_
          refine GC.region ?_
          refine GL.v Wlba ?_
          refine GL.store_varN rfl rfl rfl Wpk (by rfl) (by rfl) (by rfl) ?_
          refine GL.nil ?_
          refine GE.seq ?_
          refine GC.ret ?_
          -- returns, path T
          refine GE.parts_same (rowA_setKind ms6 x11.toNat hx11 x21) Wpk ?_
          refine GE.ret_cell (L' := row nodeE D6 e6 (ms6.set x11.toNat (ms6[x11.toNat].setKind x21)) :: partsA (ms6.set x11.toNat (ms6[x11.toNat].setKind x21)) :: rdr g A c bs (p6 + 1 + 1 + 1) :: L) (.inl rfl) rfl rfl rfl (BlkRd.of_pick Wpk) (by rfl) Wsb ?_
          refine ⟨D6, e6, _, _, by rw [List.length_set], by simpa using ms6a, by simpa using ms6b, fun m hm => ?_, by omega, by omega, rfl⟩
          rcases List.mem_or_eq_of_mem_set hm with h | h
          · exact ms6c m h
          · subst h; show ms6[x11.toNat].parts.length ≤ 12; exact ms6c _ (List.getElem_mem hx11)
        exact GAs.nil
      exact GAs.nil
    exact GAs.nil
  · -- F
    refine GC.seq ?_
    refine GC.region ?_
    refine GL.v Weq ?_
    refine GL.v Wag ?_
    refine GL.nil ?_
    refine GE.seq ?_
    refine GC.ifs (fun h2 => ?_) (fun h2 => ?_)
    · -- FT
      refine GC.region_any #[false, false, false, false, false, false, false, false, false, true, true, false, false, true] mixed ?_
      refine GA.take 0 #[false, false, true, true, true, true, true, true, true, true, true, false, false, false] rfl (by exact Ev.fieldAddr rfl) rfl rfl (by kernel_rfl) rfl (by kernel_rfl) (by kernel_rfl) (fun _ _ _ h => h) ?_
      refine GA.read 1 #[true, false, true, true, true, true, true, true, true, true, true, false, false, false] rfl (by exact Wlb) rfl rfl (by kernel_rfl) rfl (by kernel_rfl) (by kernel_rfl) (fun _ _ _ h => h) ?_
      refine GA.take 2 #[true, true, false, true, true, true, true, true, true, true, true, false, false, false] rfl (by exact Ev.move rfl) rfl rfl (by kernel_rfl) rfl (by kernel_rfl) (by kernel_rfl) (fun _ _ _ h => h) ?_
      refine GA.take 3 #[true, true, true, false, true, true, true, true, true, true, false, false, false, false] rfl (by exact Ev.move rfl) rfl rfl (by kernel_rfl) rfl (by kernel_rfl) (by kernel_rfl) (fun _ _ _ h => h) ?_
      refine GA.take 4 #[true, true, true, true, false, true, true, true, true, false, false, false, false, false] rfl (by exact Ev.move rfl) rfl rfl (by kernel_rfl) rfl (by kernel_rfl) (by kernel_rfl) (fun _ _ _ h => h) ?_
      refine GA.take 5 #[true, true, true, true, true, false, false, false, false, false, false, false, false, false] rfl (by exact Ev.fieldAddr rfl) rfl rfl (by kernel_rfl) rfl (by kernel_rfl) (by kernel_rfl) (fun _ _ _ h => h) ?_
      refine GA.read 6 #[true, true, true, true, true, true, false, false, false, false, false, false, false, false] rfl (by exact Wlb) rfl rfl (by kernel_rfl) rfl (by kernel_rfl) (by kernel_rfl) (fun _ _ _ h => h) ?_
      refine GA.take 7 #[true, true, true, true, true, true, true, false, false, false, false, false, false, false] rfl (by exact Ev.len rfl) rfl rfl (by kernel_rfl) rfl (by kernel_rfl) (by kernel_rfl) (fun _ _ _ h => h) ?_
      refine GA.take 8 #[true, true, true, true, true, true, true, true, false, false, false, false, false, false] rfl (by exact Ev.sub rfl rfl (by omega)) rfl rfl (by kernel_rfl) rfl (by kernel_rfl) (by kernel_rfl) (fun _ _ _ h => h) ?_
      refine GA.branch (rs := [9]) (JOk.live (by exact Wlb) (JOk.live (by exact Wlb) JOk.nil)) (by kernel_rfl) (by simp) ?_
      refine GAs.cons rfl ?_ ?_
      · -- FT op 9
        refine GL.buildSlice rfl (by first | exact bsInt0 | exact bsInt1 _ | exact bsInt2 _ _ | exact bsInt3 _ _ _ | exact bsInt4 _ _ _ _ | exact bsInt5 _ _ _ _ _ | exact bsInt6 _ _ _ _ _ _ | exact bsInt7 _ _ _ _ _ _ _ | exact bsInt8 _ _ _ _ _ _ _ _ | exact bsInt9 _ _ _ _ _ _ _ _ _ | exact bsInt10 _ _ _ _ _ _ _ _ _ _ | exact bsPart0 | exact bsPart1 ⟨_, _, _, _, _⟩ | exact bsNode1 ⟨_, _, _, _⟩ | exact bsPtr3 _ _ _ | exact bsSl0 | exact bsSl1 ⟨_, _, _⟩) rfl (by decide) rfl ?_; intro g35
        refine GL.nil ?_
        refine GE.any ?_
        refine GA.branch (rs := [10]) (JOk.dead (by kernel_rfl) (JOk.live (by exact Wlb) JOk.nil)) (by kernel_rfl) (by simp) ?_
        refine GAs.cons rfl ?_ ?_
        · -- FT op 10
          refine GL.callP rfl rfl Wpk (goodFormula_spec _ _ _ _ _ _ (by assumption) _ Wom Wom _ _ _ Wrd _ Wom Wom) ?_
          rintro _ _ ⟨D36, e36, fp36, p36, rfl, fp36a, fp36b, p36a, p36b, rfl⟩
          refine GL.nil ?_
          refine GE.any ?_
          refine GA.read 11 #[true, true, true, true, true, true, true, true, true, true, true, false, false, false] rfl (by exact Wix) rfl rfl (by kernel_rfl) rfl (by kernel_rfl) (by kernel_rfl) (fun _ _ _ h => h) ?_
          refine GA.take 12 #[true, true, true, true, true, true, true, true, true, true, true, true, false, false] rfl (by exact Ev.fieldAddr rfl) rfl rfl (by kernel_rfl) rfl (by kernel_rfl) (by kernel_rfl) (fun _ _ _ h => h) ?_
          refine GA.branch (rs := [13]) (JOk.live (by exact Wix) (JOk.dead (by kernel_rfl) (JOk.live (by exact Wlb) JOk.nil))) (by kernel_rfl) (by simp) ?_
          refine GAs.cons rfl ?_ ?_
          · -- FT op 13
            refine GL.store_el_cell (⟨ms6[x11.toNat].kind, D36, e36, fp36⟩ : NdM) (u := .slice D36 fp36.length e36) rfl rfl Wpk rfl rfl Wom (by decide) rfl ?_
            refine GL.nil ?_
            refine GE.any ?_
            refine GA.done (JOk.dead (by kernel_rfl) (JOk.dead (by kernel_rfl) (JOk.dead (by kernel_rfl) JOk.nil))) (by kernel_rfl) ?_
            refine GE.block ?_
            refine GE.seq ?_
            refine GC.seq ?_
            refine GC.region ?_
            refine GL.v Wlba ?_
            refine GL.store_varN rfl rfl rfl Wpk (by rfl) (by rfl) (by rfl) ?_
            refine GL.nil ?_
            refine GE.seq ?_
            refine GC.ret ?_
            -- returns, path FT
            refine GE.parts_set x11.toNat ⟨ms6[x11.toNat].kind, D36, e36, fp36⟩ hx11 Wpk Wpk ?_
            refine GE.ret_cell (L' := row nodeE D6 e6 (ms6.set x11.toNat ⟨ms6[x11.toNat].kind, D36, e36, fp36⟩) :: partsA (ms6.set x11.toNat ⟨ms6[x11.toNat].kind, D36, e36, fp36⟩) :: rdr g A c bs p36 :: L) (.inl rfl) rfl rfl rfl (BlkRd.of_pick Wpk) (by rfl) Wsb ?_
            refine ⟨D6, e6, _, _, by rw [List.length_set], by simpa using ms6a, by simpa using ms6b, fun m hm => ?_, by omega, by omega, rfl⟩
            rcases List.mem_or_eq_of_mem_set hm with h | h
            · exact ms6c m h
            · subst h; exact fp36b
          exact GAs.nil
        exact GAs.nil
      exact GAs.nil
    · -- FF
      refine GC.skip ?_
      refine GE.block ?_
      refine GE.seq ?_
      refine GC.seq ?_
      refine GC.region ?_
      refine GL.v Wlba ?_
      refine GL.store_varN rfl rfl rfl Wpk (by rfl) (by rfl) (by rfl) ?_
      refine GL.nil ?_
      refine GE.seq ?_
      refine GC.ret ?_
      -- returns, path FF
      refine GE.ret_cell (L' := row nodeE D6 e6 ms6 :: partsA ms6 :: rdr g A c bs (p6 + 1 + 1) :: L) (.inl rfl) rfl rfl rfl (BlkRd.of_pick Wpk) (by rfl) Wsb ?_
      exact ⟨D6, e6, ms6, _, rfl, ms6a, ms6b, ms6c, by omega, by omega, rfl⟩
theorem SizeG.small {ms : List NdM} (h : ms.length ≤ 10) (h' : ∀ m ∈ ms, m.parts.length ≤ 12) : SizeG ms := ⟨by omega, fun i hi => by have := h' _ (List.getElem_mem hi); omega⟩
end SG
