/- The law FnExactReadsOf holds for every input. -/
import Derived.Test.YtglmfcligilhjaaD9
import Derived.Test.YtglmfcligilhjaaD17
import Derived.Test.YtglmfcligilhjaaD19
import Derived.Test.YtglmfcligilhjaaRows
namespace SG
open Go Go.RowKit Go.Proofs Go.Proofs.Ytglmfcligilhjaa Go.ChangeShapes Go.WideShapes Go.Deep
set_option linter.unusedVariables false
set_option linter.unusedSimpArgs false
set_option maxRecDepth 100000
theorem FnExactReadsOf_spec (w0 : World) (L : List Asn) (A : Option Addr) (c : Nat) (ps : List Part) (hP : Rd w0 L lpartE A c ps) (B : Option Addr) (d : Nat) (xs : List Int) (hX : Rd w0 L intE B d xs) :
    Tr Try.prog 9 #[.agg #[.slice A ps.length c], .slice B xs.length d] w0 L (fun v L' => v = .bool true ∧ L' = L) := by
  refine Tr.rd_cap hP fun hc1 hc2 => ?_
  refine Tr.rd_cap hX fun hd1 hd2 => ?_
  refine Tr.enter (args := [.agg #[.slice A ps.length c], .slice B xs.length d]) Try.func9 Try.ntmps9 rfl rfl ?_
  refine GC.seq ?_
  refine GC.region ?_
  refine GL.box_agg rfl rfl ?_; intro g2
  refine GL.val (by exact EvP.r (Ev.assign rfl)) rfl rfl ?_
  refine GL.nil ?_
  refine GE.seq ?_
  refine GC.seq ?_
  refine GC.seq ?_
  refine GC.region ?_
  refine GL.val (by exact EvP.r (Ev.move rfl)) rfl rfl ?_
  refine GL.val (by exact EvP.r (Ev.len rfl)) rfl rfl ?_
  refine GL.val (by exact EvP.r (Ev.gtr rfl rfl)) rfl rfl ?_
  refine GL.nil ?_
  refine GE.seq ?_
  first | refine GC.if_dec rfl (fun h1 => ?_) (fun h1 => ?_) | refine GC.if_ndec rfl (fun h1 => ?_) (fun h1 => ?_) | refine GC.if_not rfl (fun h1 => ?_) (fun h1 => ?_) | refine GC.if_bool rfl (fun h1 => ?_) (fun h1 => ?_)
  · -- T
    refine GC.seq ?_
    refine GC.region ?_
    refine GL.val (by exact EvP.r (Ev.assign rfl)) rfl rfl ?_
    refine GL.nil ?_
    refine GE.seq ?_
    refine GC.ret ?_
    refine GE.seq_ret ?_
    -- returns, path T
    refine GE.ret_tmp (L' := L) (.inl rfl) rfl rfl (by first | exact Sub.refl | exact Sub.nil | (repeat (first | exact Sub.refl | exact Sub.nil | refine Sub.cons (by (repeat (first | exact Pick.head | apply Pick.tail)); fail_if_success (focus skip)) ?_ | refine Sub.drop ?_))) ?_
    exact ⟨rfl, rfl⟩
  · -- F
    refine GC.skip ?_
    refine GE.seq ?_
    refine GC.seq ?_
    refine GC.region ?_
    refine GL.val (by exact EvP.r (Ev.assign rfl)) rfl rfl ?_
    refine GL.nil ?_
    refine GE.seq ?_
    refine GC.seq ?_
    refine GC.region ?_
    refine GL.val (by exact (by first | exact Ev.load_blk_all rfl rfl (BlkRd.of_pick (by (repeat (first | exact Pick.head | apply Pick.tail)); fail_if_success (focus skip))) Imp.refl (by rfl) | exact Ev.load_blk_all rfl rfl (by assumption) (by first | exact Imp.refl | exact Imp.nil | ((repeat (first | exact Imp.refl | refine Imp.cons ?_)); fail_if_success (focus skip))) (by rfl))) rfl rfl ?_
    refine GL.val (by exact EvP.r (Ev.move rfl)) rfl rfl ?_
    refine GL.callF rfl rfl (szFormula_spec _ _ _ _ _ _ (by first | omega | (simp; done) | (simp; omega)) (by first | omega | (simp; done) | (simp; omega)) (by first | omega | (simp; done) | (simp; omega))) ?_
    refine GL.val (by exact EvP.r (Ev.assign rfl)) rfl rfl ?_
    refine GL.nil ?_
    refine GE.seq ?_
    refine GC.seq ?_
    refine GC.seq ?_
    refine GC.region ?_
    refine GL.val (by exact EvP.r (Ev.move rfl)) rfl rfl ?_
    refine GL.val (by exact EvP.r (Ev.lss rfl rfl)) rfl rfl ?_
    refine GL.nil ?_
    refine GE.seq ?_
    first | refine GC.if_dec rfl (fun h2 => ?_) (fun h2 => ?_) | refine GC.if_ndec rfl (fun h2 => ?_) (fun h2 => ?_) | refine GC.if_not rfl (fun h2 => ?_) (fun h2 => ?_) | refine GC.if_bool rfl (fun h2 => ?_) (fun h2 => ?_)
    · -- FT
      refine GC.seq ?_
      refine GC.region ?_
      refine GL.val (by exact EvP.r (Ev.assign rfl)) rfl rfl ?_
      refine GL.nil ?_
      refine GE.seq ?_
      refine GC.ret ?_
      refine GE.seq_ret ?_
      -- returns, path FT
      refine GE.ret_tmp (L' := L) (.inl rfl) rfl rfl (by first | exact Sub.refl | exact Sub.nil | (repeat (first | exact Sub.refl | exact Sub.nil | refine Sub.cons (by (repeat (first | exact Pick.head | apply Pick.tail)); fail_if_success (focus skip)) ?_ | refine Sub.drop ?_))) ?_
      exact ⟨rfl, rfl⟩
    · -- FF
      have hn : ps.length ≤ 1048576 := by split at h2 <;> omega
      have hrl := rdsL_length ps xs
      refine GC.skip ?_
      refine GE.seq ?_
      refine GC.seq ?_
      refine GC.region ?_
      refine GL.val (by exact (by first | exact Ev.load_blk_all rfl rfl (BlkRd.of_pick (by (repeat (first | exact Pick.head | apply Pick.tail)); fail_if_success (focus skip))) Imp.refl (by rfl) | exact Ev.load_blk_all rfl rfl (by assumption) (by first | exact Imp.refl | exact Imp.nil | ((repeat (first | exact Imp.refl | refine Imp.cons ?_)); fail_if_success (focus skip))) (by rfl))) rfl rfl ?_
      refine GL.call rfl rfl (toFormula_spec _ _ _ _ _ (by first | assumption | exact Rd.of_pick (by (repeat (first | exact Pick.head | apply Pick.tail)); fail_if_success (focus skip)) | exact Rd.imp (by assumption) (by first | exact Imp.refl | exact Imp.nil | ((repeat (first | exact Imp.refl | refine Imp.cons ?_)); fail_if_success (focus skip)))) (by first | omega | (simp; done) | (simp; omega))) ?_
      rintro _ _ ⟨B23, rfl, rfl⟩
      refine GL.val (by exact EvP.r (Ev.move rfl)) rfl rfl ?_
      refine GL.call rfl rfl (toIntS_spec _ _ _ _ _ (by first | assumption | exact Rd.of_pick (by (repeat (first | exact Pick.head | apply Pick.tail)); fail_if_success (focus skip)) | exact Rd.imp (by assumption) (by first | exact Imp.refl | exact Imp.nil | ((repeat (first | exact Imp.refl | refine Imp.cons ?_)); fail_if_success (focus skip)))) (by first | omega | (simp; done) | (simp; omega))) ?_
      rintro _ _ ⟨B25, rfl, rfl⟩
      refine GL.call rfl rfl (sReadsOf_spec _ _ _ _ _ (by first | assumption | exact Rd.of_pick (by (repeat (first | exact Pick.head | apply Pick.tail)); fail_if_success (focus skip)) | exact Rd.imp (by assumption) (by first | exact Imp.refl | exact Imp.nil | ((repeat (first | exact Imp.refl | refine Imp.cons ?_)); fail_if_success (focus skip)))) _ _ _ (by first | assumption | exact Rd.of_pick (by (repeat (first | exact Pick.head | apply Pick.tail)); fail_if_success (focus skip)) | exact Rd.imp (by assumption) (by first | exact Imp.refl | exact Imp.nil | ((repeat (first | exact Imp.refl | refine Imp.cons ?_)); fail_if_success (focus skip)))) (by first | omega | (simp; done) | (simp; omega)) (by first | omega | (simp; done) | (simp; omega))) ?_
      rintro _ _ ⟨B26, d26, rfl, rfl⟩
      refine GL.val (by exact EvP.r (Ev.assign rfl)) rfl rfl ?_
      refine GL.nil ?_
      refine GE.seq ?_
      refine GC.seq ?_
      refine GC.region ?_
      refine GL.val (by exact (by first | exact Ev.load_blk_all rfl rfl (BlkRd.of_pick (by (repeat (first | exact Pick.head | apply Pick.tail)); fail_if_success (focus skip))) Imp.refl (by rfl) | exact Ev.load_blk_all rfl rfl (by assumption) (by first | exact Imp.refl | exact Imp.nil | ((repeat (first | exact Imp.refl | refine Imp.cons ?_)); fail_if_success (focus skip))) (by rfl))) rfl rfl ?_
      refine GL.call rfl rfl (toFormula_spec _ _ _ _ _ (by first | assumption | exact Rd.of_pick (by (repeat (first | exact Pick.head | apply Pick.tail)); fail_if_success (focus skip)) | exact Rd.imp (by assumption) (by first | exact Imp.refl | exact Imp.nil | ((repeat (first | exact Imp.refl | refine Imp.cons ?_)); fail_if_success (focus skip)))) (by first | omega | (simp; done) | (simp; omega))) ?_
      rintro _ _ ⟨B28, rfl, rfl⟩
      refine GL.alloc rfl ?_; intro g7
      refine GL.store_varN rfl rfl rfl (by (repeat (first | exact Pick.head | apply Pick.tail)); fail_if_success (focus skip)) (by rfl) (by rfl) (by rfl) ?_
      refine GL.nil ?_
      refine GE.seq ?_
      refine GC.seq ?_
      refine GC.region ?_
      refine GL.val (by exact EvP.r (Ev.move rfl)) rfl rfl ?_
      refine GL.call rfl rfl (toIntS_spec _ _ _ _ _ (by first | assumption | exact Rd.of_pick (by (repeat (first | exact Pick.head | apply Pick.tail)); fail_if_success (focus skip)) | exact Rd.imp (by assumption) (by first | exact Imp.refl | exact Imp.nil | ((repeat (first | exact Imp.refl | refine Imp.cons ?_)); fail_if_success (focus skip)))) (by first | omega | (simp; done) | (simp; omega))) ?_
      rintro _ _ ⟨B30, rfl, rfl⟩
      refine GL.val (by exact EvP.r (Ev.assign rfl)) rfl rfl ?_
      refine GL.nil ?_
      refine GE.seq ?_
      refine GC.seq ?_
      refine GC.region ?_
      refine GL.val (by exact (by first | exact Ev.load_blk_all rfl rfl (BlkRd.of_pick (by (repeat (first | exact Pick.head | apply Pick.tail)); fail_if_success (focus skip))) Imp.refl (by rfl) | exact Ev.load_blk_all rfl rfl (by assumption) (by first | exact Imp.refl | exact Imp.nil | ((repeat (first | exact Imp.refl | refine Imp.cons ?_)); fail_if_success (focus skip))) (by rfl))) rfl rfl ?_
      refine GL.val (by exact EvP.r (Ev.move rfl)) rfl rfl ?_
      refine GL.call rfl rfl (iReadsOf_spec _ _ _ _ _ (by first | assumption | exact Rd.of_pick (by (repeat (first | exact Pick.head | apply Pick.tail)); fail_if_success (focus skip)) | exact Rd.imp (by assumption) (by first | exact Imp.refl | exact Imp.nil | ((repeat (first | exact Imp.refl | refine Imp.cons ?_)); fail_if_success (focus skip)))) _ _ _ (by first | assumption | exact Rd.of_pick (by (repeat (first | exact Pick.head | apply Pick.tail)); fail_if_success (focus skip)) | exact Rd.imp (by assumption) (by first | exact Imp.refl | exact Imp.nil | ((repeat (first | exact Imp.refl | refine Imp.cons ?_)); fail_if_success (focus skip)))) (by first | omega | (simp; done) | (simp; omega))) ?_
      rintro _ _ ⟨B33, d33, rfl, rfl⟩
      refine GL.val (by exact EvP.r (Ev.assign rfl)) rfl rfl ?_
      refine GL.nil ?_
      refine GE.seq ?_
      refine GC.seq ?_
      refine GC.seq ?_
      refine GC.region ?_
      refine GL.val (by exact EvP.r (Ev.move rfl)) rfl rfl ?_
      refine GL.val (by exact EvP.r (Ev.move rfl)) rfl rfl ?_
      refine GL.callF rfl rfl (eqIntS_spec _ _ _ _ _ (by first | assumption | exact Rd.of_pick (by (repeat (first | exact Pick.head | apply Pick.tail)); fail_if_success (focus skip)) | exact Rd.imp (by assumption) (by first | exact Imp.refl | exact Imp.nil | ((repeat (first | exact Imp.refl | refine Imp.cons ?_)); fail_if_success (focus skip)))) _ _ _ (by first | assumption | exact Rd.of_pick (by (repeat (first | exact Pick.head | apply Pick.tail)); fail_if_success (focus skip)) | exact Rd.imp (by assumption) (by first | exact Imp.refl | exact Imp.nil | ((repeat (first | exact Imp.refl | refine Imp.cons ?_)); fail_if_success (focus skip)))) (by first | omega | (simp; done) | (simp; omega))) ?_
      refine GL.val (by exact EvP.r (Ev.not rfl)) rfl rfl ?_
      refine GL.nil ?_
      refine GE.seq ?_
      first | refine GC.if_dec rfl (fun h3 => ?_) (fun h3 => ?_) | refine GC.if_ndec rfl (fun h3 => ?_) (fun h3 => ?_) | refine GC.if_not rfl (fun h3 => ?_) (fun h3 => ?_) | refine GC.if_bool rfl (fun h3 => ?_) (fun h3 => ?_)
      · -- FFT
        exact absurd rfl h3
      · -- FFF
        refine GC.skip ?_
        refine GE.seq ?_
        refine GC.seq ?_
        refine GC.seq ?_
        refine GC.region_any #[false, false, true, true, false] mixed ?_
        refine GA.read 0 #[false, true, true, false, false] rfl (by exact (by first | exact Ev.load_blk_all rfl rfl (BlkRd.of_pick (by (repeat (first | exact Pick.head | apply Pick.tail)); fail_if_success (focus skip))) Imp.refl (by rfl) | exact Ev.load_blk_all rfl rfl (by assumption) (by first | exact Imp.refl | exact Imp.nil | ((repeat (first | exact Imp.refl | refine Imp.cons ?_)); fail_if_success (focus skip))) (by rfl))) rfl rfl (by kernel_rfl) rfl (by kernel_rfl) (by kernel_rfl) (fun _ _ _ h => h) ?_
        refine GA.read 1 #[true, false, false, false, false] rfl (by exact (by first | exact Ev.load_blk_all rfl rfl (BlkRd.of_pick (by (repeat (first | exact Pick.head | apply Pick.tail)); fail_if_success (focus skip))) Imp.refl (by rfl) | exact Ev.load_blk_all rfl rfl (by assumption) (by first | exact Imp.refl | exact Imp.nil | ((repeat (first | exact Imp.refl | refine Imp.cons ?_)); fail_if_success (focus skip))) (by rfl))) rfl rfl (by kernel_rfl) rfl (by kernel_rfl) (by kernel_rfl) (fun _ _ _ h => h) ?_
        refine GA.branch (rs := [2]) (JOk.live (by exact (by first | exact Ev.load_blk_all rfl rfl (BlkRd.of_pick (by (repeat (first | exact Pick.head | apply Pick.tail)); fail_if_success (focus skip))) Imp.refl (by rfl) | exact Ev.load_blk_all rfl rfl (by assumption) (by first | exact Imp.refl | exact Imp.nil | ((repeat (first | exact Imp.refl | refine Imp.cons ?_)); fail_if_success (focus skip))) (by rfl))) (JOk.live (by exact (by first | exact Ev.load_blk_all rfl rfl (BlkRd.of_pick (by (repeat (first | exact Pick.head | apply Pick.tail)); fail_if_success (focus skip))) Imp.refl (by rfl) | exact Ev.load_blk_all rfl rfl (by assumption) (by first | exact Imp.refl | exact Imp.nil | ((repeat (first | exact Imp.refl | refine Imp.cons ?_)); fail_if_success (focus skip))) (by rfl))) JOk.nil)) (by kernel_rfl) (by simp) ?_
        refine GAs.cons rfl ?_ ?_
        · -- FFF op 2
          refine GL.call rfl rfl (toFormula_spec _ _ _ _ _ (by first | assumption | exact Rd.of_pick (by (repeat (first | exact Pick.head | apply Pick.tail)); fail_if_success (focus skip)) | exact Rd.imp (by assumption) (by first | exact Imp.refl | exact Imp.nil | ((repeat (first | exact Imp.refl | refine Imp.cons ?_)); fail_if_success (focus skip)))) (by first | omega | (simp; done) | (simp; omega))) ?_
          rintro _ _ ⟨B40, rfl, rfl⟩
          refine GL.nil ?_
          refine GE.any ?_
          refine GA.branch (rs := [3]) (JOk.dead (by kernel_rfl) (JOk.live (by exact (by first | exact Ev.load_blk_all rfl rfl (BlkRd.of_pick (by (repeat (first | exact Pick.head | apply Pick.tail)); fail_if_success (focus skip))) Imp.refl (by rfl) | exact Ev.load_blk_all rfl rfl (by assumption) (by first | exact Imp.refl | exact Imp.nil | ((repeat (first | exact Imp.refl | refine Imp.cons ?_)); fail_if_success (focus skip))) (by rfl))) JOk.nil)) (by kernel_rfl) (by simp) ?_
          refine GAs.cons rfl ?_ ?_
          · -- FFF op 3
            refine GL.callF rfl rfl (eqFormula_spec _ _ _ _ _ (by first | assumption | exact Rd.of_pick (by (repeat (first | exact Pick.head | apply Pick.tail)); fail_if_success (focus skip)) | exact Rd.imp (by assumption) (by first | exact Imp.refl | exact Imp.nil | ((repeat (first | exact Imp.refl | refine Imp.cons ?_)); fail_if_success (focus skip)))) _ _ _ (by first | assumption | exact Rd.of_pick (by (repeat (first | exact Pick.head | apply Pick.tail)); fail_if_success (focus skip)) | exact Rd.imp (by assumption) (by first | exact Imp.refl | exact Imp.nil | ((repeat (first | exact Imp.refl | refine Imp.cons ?_)); fail_if_success (focus skip)))) (by first | omega | (simp; done) | (simp; omega))) ?_
            refine GL.nil ?_
            refine GE.any ?_
            refine GA.take 4 #[true, true, true, true, false] rfl (by exact Ev.not rfl) rfl rfl (by kernel_rfl) rfl (by kernel_rfl) (by kernel_rfl) (fun _ _ _ h => h) ?_
            refine GA.done (JOk.dead (by kernel_rfl) (JOk.dead (by kernel_rfl) JOk.nil)) (by kernel_rfl) ?_
            refine GE.seq ?_
            first | refine GC.if_dec rfl (fun h4 => ?_) (fun h4 => ?_) | refine GC.if_ndec rfl (fun h4 => ?_) (fun h4 => ?_) | refine GC.if_not rfl (fun h4 => ?_) (fun h4 => ?_) | refine GC.if_bool rfl (fun h4 => ?_) (fun h4 => ?_)
            · -- FFFT
              exact absurd rfl h4
            · -- FFFF
              refine GC.skip ?_
              refine GE.seq ?_
              refine GC.seq ?_
              refine GC.seq ?_
              refine GC.region ?_
              refine GL.val (by exact EvP.r (Ev.move rfl)) rfl rfl ?_
              refine GL.val (by exact EvP.r (Ev.move rfl)) rfl rfl ?_
              refine GL.call rfl rfl (toIntS_spec _ _ _ _ _ (by first | assumption | exact Rd.of_pick (by (repeat (first | exact Pick.head | apply Pick.tail)); fail_if_success (focus skip)) | exact Rd.imp (by assumption) (by first | exact Imp.refl | exact Imp.nil | ((repeat (first | exact Imp.refl | refine Imp.cons ?_)); fail_if_success (focus skip)))) (by first | omega | (simp; done) | (simp; omega))) ?_
              rintro _ _ ⟨B45, rfl, rfl⟩
              refine GL.callF rfl rfl (eqIntS_spec _ _ _ _ _ (by first | assumption | exact Rd.of_pick (by (repeat (first | exact Pick.head | apply Pick.tail)); fail_if_success (focus skip)) | exact Rd.imp (by assumption) (by first | exact Imp.refl | exact Imp.nil | ((repeat (first | exact Imp.refl | refine Imp.cons ?_)); fail_if_success (focus skip)))) _ _ _ (by first | assumption | exact Rd.of_pick (by (repeat (first | exact Pick.head | apply Pick.tail)); fail_if_success (focus skip)) | exact Rd.imp (by assumption) (by first | exact Imp.refl | exact Imp.nil | ((repeat (first | exact Imp.refl | refine Imp.cons ?_)); fail_if_success (focus skip)))) (by first | omega | (simp; done) | (simp; omega))) ?_
              refine GL.val (by exact EvP.r (Ev.not rfl)) rfl rfl ?_
              refine GL.nil ?_
              refine GE.seq ?_
              first | refine GC.if_dec rfl (fun h5 => ?_) (fun h5 => ?_) | refine GC.if_ndec rfl (fun h5 => ?_) (fun h5 => ?_) | refine GC.if_not rfl (fun h5 => ?_) (fun h5 => ?_) | refine GC.if_bool rfl (fun h5 => ?_) (fun h5 => ?_)
              · -- FFFFT
                exact absurd rfl h5
              · -- FFFFF
                refine GC.skip ?_
                refine GE.seq ?_
                refine GC.seq ?_
                refine GC.region ?_
                refine GL.val (by exact EvP.r (Ev.assign rfl)) rfl rfl ?_
                refine GL.nil ?_
                refine GE.seq ?_
                refine GC.seq ?_
                refine GC.region ?_
                refine GL.val (by exact (by first | exact Ev.load_blk_all rfl rfl (BlkRd.of_pick (by (repeat (first | exact Pick.head | apply Pick.tail)); fail_if_success (focus skip))) Imp.refl (by rfl) | exact Ev.load_blk_all rfl rfl (by assumption) (by first | exact Imp.refl | exact Imp.nil | ((repeat (first | exact Imp.refl | refine Imp.cons ?_)); fail_if_success (focus skip))) (by rfl))) rfl rfl ?_
                refine GL.val (by exact EvP.r (Ev.move rfl)) rfl rfl ?_
                refine GL.callP rfl rfl (by (repeat (first | exact Pick.head | apply Pick.tail)); fail_if_success (focus skip)) (markFormula_spec _ _ _ _ _ _ (by first | omega | (simp; done) | (simp; omega)) (by first | omega | (simp; done) | (simp; omega)) (by first | omega | (simp; done) | (simp; omega))) ?_
                rintro _ _ ⟨rfl, ys50, ys50a, rfl⟩
                refine GL.val (by exact EvP.r (Ev.assign rfl)) rfl rfl ?_
                refine GL.nil ?_
                refine GE.seq ?_
                refine GC.seq ?_
                refine GC.region ?_
                refine GL.val (by exact EvP.r (Ev.move rfl)) rfl rfl ?_
                refine GL.val (by exact EvP.r (Ev.move rfl)) rfl rfl ?_
                refine GL.callP rfl rfl (by (repeat (first | exact Pick.head | apply Pick.tail)); fail_if_success (focus skip)) (markIntS_spec _ _ _ _ _ _ (by first | omega | (simp; done) | (simp; omega)) (by first | omega | (simp; done) | (simp; omega)) (by first | omega | (simp; done) | (simp; omega))) ?_
                rintro _ _ ⟨rfl, rfl⟩
                refine GL.val (by exact EvP.r (Ev.assign rfl)) rfl rfl ?_
                refine GL.nil ?_
                refine GE.seq ?_
                refine GC.seq ?_
                refine GC.seq ?_
                refine GC.region ?_
                refine GL.val (by exact EvP.r (Ev.move rfl)) rfl rfl ?_
                refine GL.val (by exact EvP.r (Ev.lss rfl rfl)) rfl rfl ?_
                refine GL.val (by exact EvP.r (Ev.move rfl)) rfl rfl ?_
                first | refine GL.gdec rfl rfl (fun h6 => ?_) (fun h6 => ?_) | refine GL.gndec rfl rfl (fun h6 => ?_) (fun h6 => ?_) | refine GL.gnot rfl rfl (fun h6 => ?_) (fun h6 => ?_) | refine GL.gbool rfl rfl (fun h6 => ?_) (fun h6 => ?_)
                · -- FFFFFt
                  omega
                · -- FFFFFf
                  refine GL.want rfl rfl ?_
                  refine GL.val (by exact EvP.r (Ev.move rfl)) rfl rfl ?_
                  refine GL.want rfl rfl ?_
                  refine GL.val (by exact EvP.r (Ev.move rfl)) rfl rfl ?_
                  refine GL.want rfl rfl ?_
                  refine GL.callF rfl rfl (eqIntS_spec _ _ _ _ _ (by first | assumption | exact Rd.of_pick (by (repeat (first | exact Pick.head | apply Pick.tail)); fail_if_success (focus skip)) | exact Rd.imp (by assumption) (by first | exact Imp.refl | exact Imp.nil | ((repeat (first | exact Imp.refl | refine Imp.cons ?_)); fail_if_success (focus skip)))) _ _ _ (by first | assumption | exact Rd.of_pick (by (repeat (first | exact Pick.head | apply Pick.tail)); fail_if_success (focus skip)) | exact Rd.imp (by assumption) (by first | exact Imp.refl | exact Imp.nil | ((repeat (first | exact Imp.refl | refine Imp.cons ?_)); fail_if_success (focus skip)))) (by first | omega | (simp; done) | (simp; omega))) ?_
                  refine GL.want rfl rfl ?_
                  refine GL.val (by exact EvP.r (Ev.not rfl)) rfl rfl ?_
                  refine GL.val (by exact EvP.r (Ev.pick_false rfl rfl)) rfl rfl ?_
                  refine GL.nil ?_
                  refine GE.seq ?_
                  first | refine GC.if_dec rfl (fun h7 => ?_) (fun h7 => ?_) | refine GC.if_ndec rfl (fun h7 => ?_) (fun h7 => ?_) | refine GC.if_not rfl (fun h7 => ?_) (fun h7 => ?_) | refine GC.if_bool rfl (fun h7 => ?_) (fun h7 => ?_)
                  · -- FFFFFfT
                    exact absurd rfl h7
                  · -- FFFFFfF
                    refine GC.skip ?_
                    refine GE.seq ?_
                    refine GC.seq ?_
                    refine GC.region ?_
                    refine GL.val (by exact EvP.r (Ev.assign rfl)) rfl rfl ?_
                    refine GL.nil ?_
                    refine GE.seq ?_
                    refine GC.seq ?_
                    refine GC.region ?_
                    refine GL.val (by exact EvP.r (Ev.move rfl)) rfl rfl ?_
                    refine GL.val (by exact EvP.r (Ev.move rfl)) rfl rfl ?_
                    refine GL.callP rfl rfl (by (repeat (first | exact Pick.head | apply Pick.tail)); fail_if_success (focus skip)) (markIntS_spec _ _ _ _ _ _ (by first | omega | (simp; done) | (simp; omega)) (by first | omega | (simp; done) | (simp; omega)) (by first | omega | (simp; done) | (simp; omega))) ?_
                    rintro _ _ ⟨rfl, rfl⟩
                    refine GL.val (by exact EvP.r (Ev.assign rfl)) rfl rfl ?_
                    refine GL.nil ?_
                    refine GE.seq ?_
                    refine GC.seq ?_
                    refine GC.region ?_
                    refine GL.val (by exact EvP.r (Ev.assign rfl)) rfl rfl ?_
                    refine GL.nil ?_
                    refine GE.seq ?_
                    refine GC.seq ?_
                    refine GC.region ?_
                    refine GL.val (by exact EvP.r (Ev.move rfl)) rfl rfl ?_
                    refine GL.val (by exact EvP.r (Ev.move rfl)) rfl rfl ?_
                    refine GL.callF rfl rfl (heldIntS_spec _ _ _ _ _ _ (by first | assumption | exact Rd.of_pick (by (repeat (first | exact Pick.head | apply Pick.tail)); fail_if_success (focus skip)) | exact Rd.imp (by assumption) (by first | exact Imp.refl | exact Imp.nil | ((repeat (first | exact Imp.refl | refine Imp.cons ?_)); fail_if_success (focus skip)))) (by first | omega | (simp; done) | (simp; omega)) (by first | omega | (simp; done) | (simp; omega)) (by first | omega | (simp; done) | (simp; omega))) ?_
                    refine GL.val (by exact EvP.r (Ev.assign rfl)) rfl rfl ?_
                    refine GL.nil ?_
                    refine GE.seq ?_
                    refine GC.seq ?_
                    refine GC.seq ?_
                    refine GC.region ?_
                    refine GL.val (by exact EvP.r (Ev.move rfl)) rfl rfl ?_
                    refine GL.val (by exact EvP.r (Ev.lss rfl rfl)) rfl rfl ?_
                    refine GL.nil ?_
                    refine GE.seq ?_
                    first | refine GC.if_dec rfl (fun h8 => ?_) (fun h8 => ?_) | refine GC.if_ndec rfl (fun h8 => ?_) (fun h8 => ?_) | refine GC.if_not rfl (fun h8 => ?_) (fun h8 => ?_) | refine GC.if_bool rfl (fun h8 => ?_) (fun h8 => ?_)
                    · -- FFFFFfFT
                      omega
                    · -- FFFFFfFF
                      refine GC.skip ?_
                      refine GE.seq ?_
                      refine GC.seq ?_
                      refine GC.seq ?_
                      refine GC.region ?_
                      refine GL.val (by exact EvP.r (Ev.move rfl)) rfl rfl ?_
                      refine GL.val (by exact EvP.r (Ev.move rfl)) rfl rfl ?_
                      refine GL.val (by exact EvP.r (Ev.neq rfl rfl)) rfl rfl ?_
                      refine GL.nil ?_
                      refine GE.seq ?_
                      first | refine GC.if_dec rfl (fun h9 => ?_) (fun h9 => ?_) | refine GC.if_ndec rfl (fun h9 => ?_) (fun h9 => ?_) | refine GC.if_not rfl (fun h9 => ?_) (fun h9 => ?_) | refine GC.if_bool rfl (fun h9 => ?_) (fun h9 => ?_)
                      · -- FFFFFfFFT
                        exact absurd rfl h9
                      · -- FFFFFfFFF
                        refine GC.skip ?_
                        refine GE.seq ?_
                        refine GC.seq ?_
                        refine GC.region ?_
                        refine GL.val (by exact (by first | exact Ev.load_blk_all rfl rfl (BlkRd.of_pick (by (repeat (first | exact Pick.head | apply Pick.tail)); fail_if_success (focus skip))) Imp.refl (by rfl) | exact Ev.load_blk_all rfl rfl (by assumption) (by first | exact Imp.refl | exact Imp.nil | ((repeat (first | exact Imp.refl | refine Imp.cons ?_)); fail_if_success (focus skip))) (by rfl))) rfl rfl ?_
                        refine GL.call rfl rfl (toFormula_spec _ _ _ _ _ (by first | assumption | exact Rd.of_pick (by (repeat (first | exact Pick.head | apply Pick.tail)); fail_if_success (focus skip)) | exact Rd.imp (by assumption) (by first | exact Imp.refl | exact Imp.nil | ((repeat (first | exact Imp.refl | refine Imp.cons ?_)); fail_if_success (focus skip)))) (by first | omega | (simp; done) | (simp; omega))) ?_
                        rintro _ _ ⟨B74, rfl, rfl⟩
                        refine GL.val (by exact EvP.r (Ev.move rfl)) rfl rfl ?_
                        refine GL.call rfl rfl (toIntS_spec _ _ _ _ _ (by first | assumption | exact Rd.of_pick (by (repeat (first | exact Pick.head | apply Pick.tail)); fail_if_success (focus skip)) | exact Rd.imp (by assumption) (by first | exact Imp.refl | exact Imp.nil | ((repeat (first | exact Imp.refl | refine Imp.cons ?_)); fail_if_success (focus skip)))) (by first | omega | (simp; done) | (simp; omega))) ?_
                        rintro _ _ ⟨B76, rfl, rfl⟩
                        refine GL.call rfl rfl (iReadsOf_spec _ _ _ _ _ (by first | assumption | exact Rd.of_pick (by (repeat (first | exact Pick.head | apply Pick.tail)); fail_if_success (focus skip)) | exact Rd.imp (by assumption) (by first | exact Imp.refl | exact Imp.nil | ((repeat (first | exact Imp.refl | refine Imp.cons ?_)); fail_if_success (focus skip)))) _ _ _ (by first | assumption | exact Rd.of_pick (by (repeat (first | exact Pick.head | apply Pick.tail)); fail_if_success (focus skip)) | exact Rd.imp (by assumption) (by first | exact Imp.refl | exact Imp.nil | ((repeat (first | exact Imp.refl | refine Imp.cons ?_)); fail_if_success (focus skip)))) (by first | omega | (simp; done) | (simp; omega))) ?_
                        rintro _ _ ⟨B77, d77, rfl, rfl⟩
                        refine GL.val (by exact EvP.r (Ev.assign rfl)) rfl rfl ?_
                        refine GL.nil ?_
                        refine GE.seq ?_
                        refine GC.seq ?_
                        refine GC.seq ?_
                        refine GC.region ?_
                        refine GL.val (by exact EvP.r (Ev.move rfl)) rfl rfl ?_
                        refine GL.val (by exact EvP.r (Ev.move rfl)) rfl rfl ?_
                        refine GL.callF rfl rfl (eqIntS_spec _ _ _ _ _ (by first | assumption | exact Rd.of_pick (by (repeat (first | exact Pick.head | apply Pick.tail)); fail_if_success (focus skip)) | exact Rd.imp (by assumption) (by first | exact Imp.refl | exact Imp.nil | ((repeat (first | exact Imp.refl | refine Imp.cons ?_)); fail_if_success (focus skip)))) _ _ _ (by first | assumption | exact Rd.of_pick (by (repeat (first | exact Pick.head | apply Pick.tail)); fail_if_success (focus skip)) | exact Rd.imp (by assumption) (by first | exact Imp.refl | exact Imp.nil | ((repeat (first | exact Imp.refl | refine Imp.cons ?_)); fail_if_success (focus skip)))) (by first | omega | (simp; done) | (simp; omega))) ?_
                        refine GL.val (by exact EvP.r (Ev.not rfl)) rfl rfl ?_
                        refine GL.nil ?_
                        refine GE.seq ?_
                        first | refine GC.if_dec rfl (fun h10 => ?_) (fun h10 => ?_) | refine GC.if_ndec rfl (fun h10 => ?_) (fun h10 => ?_) | refine GC.if_not rfl (fun h10 => ?_) (fun h10 => ?_) | refine GC.if_bool rfl (fun h10 => ?_) (fun h10 => ?_)
                        · -- FFFFFfFFFT
                          exact absurd rfl h10
                        · -- FFFFFfFFFF
                          refine GC.skip ?_
                          refine GE.seq ?_
                          refine GC.seq ?_
                          refine GC.region ?_
                          refine GL.val (by exact EvP.r (Ev.assign rfl)) rfl rfl ?_
                          refine GL.nil ?_
                          refine GE.seq ?_
                          refine GC.seq ?_
                          refine GC.region ?_
                          refine GL.val (by exact EvP.r (Ev.move rfl)) rfl rfl ?_
                          refine GL.val (by exact EvP.r (Ev.move rfl)) rfl rfl ?_
                          refine GL.callF rfl rfl (heldIntS_spec _ _ _ _ _ _ (by first | assumption | exact Rd.of_pick (by (repeat (first | exact Pick.head | apply Pick.tail)); fail_if_success (focus skip)) | exact Rd.imp (by assumption) (by first | exact Imp.refl | exact Imp.nil | ((repeat (first | exact Imp.refl | refine Imp.cons ?_)); fail_if_success (focus skip)))) (by first | omega | (simp; done) | (simp; omega)) (by first | omega | (simp; done) | (simp; omega)) (by first | omega | (simp; done) | (simp; omega))) ?_
                          refine GL.val (by exact EvP.r (Ev.assign rfl)) rfl rfl ?_
                          refine GL.nil ?_
                          refine GE.seq ?_
                          refine GC.seq ?_
                          refine GC.seq ?_
                          refine GC.region ?_
                          refine GL.val (by exact EvP.r (Ev.move rfl)) rfl rfl ?_
                          refine GL.val (by exact EvP.r (Ev.lss rfl rfl)) rfl rfl ?_
                          refine GL.nil ?_
                          refine GE.seq ?_
                          first | refine GC.if_dec rfl (fun h11 => ?_) (fun h11 => ?_) | refine GC.if_ndec rfl (fun h11 => ?_) (fun h11 => ?_) | refine GC.if_not rfl (fun h11 => ?_) (fun h11 => ?_) | refine GC.if_bool rfl (fun h11 => ?_) (fun h11 => ?_)
                          · -- FFFFFfFFFFT
                            omega
                          · -- FFFFFfFFFFF
                            refine GC.skip ?_
                            refine GE.seq ?_
                            refine GC.seq ?_
                            refine GC.seq ?_
                            refine GC.region ?_
                            refine GL.val (by exact EvP.r (Ev.move rfl)) rfl rfl ?_
                            refine GL.val (by exact EvP.r (Ev.move rfl)) rfl rfl ?_
                            refine GL.val (by exact EvP.r (Ev.neq rfl rfl)) rfl rfl ?_
                            refine GL.nil ?_
                            refine GE.seq ?_
                            first | refine GC.if_dec rfl (fun h12 => ?_) (fun h12 => ?_) | refine GC.if_ndec rfl (fun h12 => ?_) (fun h12 => ?_) | refine GC.if_not rfl (fun h12 => ?_) (fun h12 => ?_) | refine GC.if_bool rfl (fun h12 => ?_) (fun h12 => ?_)
                            · -- FFFFFfFFFFFT
                              exact absurd rfl h12
                            · -- FFFFFfFFFFFF
                              refine GC.skip ?_
                              refine GE.seq ?_
                              refine GC.seq ?_
                              refine GC.region ?_
                              refine GL.val (by exact EvP.r (Ev.assign rfl)) rfl rfl ?_
                              refine GL.nil ?_
                              refine GE.seq ?_
                              refine GC.ret ?_
                              -- returns, path FFFFFfFFFFFF
                              refine GE.ret_tmp (L' := L) (.inl rfl) rfl rfl (by first | exact Sub.refl | exact Sub.nil | (repeat (first | exact Sub.refl | exact Sub.nil | refine Sub.cons (by (repeat (first | exact Pick.head | apply Pick.tail)); fail_if_success (focus skip)) ?_ | refine Sub.drop ?_))) ?_
                              exact ⟨rfl, rfl⟩
          exact GAs.nil
        exact GAs.nil
theorem fnExactReadsOf_calls {H : Type} {enc : TypeId × Value → H} {W : World} {base : Nat} {args : Array Value} {ds : List (DataW H)} {p : List MemPlace} (hval : ∀ (j : Nat) t v, Try.f9.params[j]? = some t → args[j]? = some v → Value.okWide Try.prog W .any base t v)
    (hA : DataW.TrodAll enc Try.prog W 0 (fun _ => true) true Try.f9.params.toList args.toList ds p) : Tr Try.prog 9 args W [] (fun v L' => v = .bool true ∧ L' = []) := by
  rw [Try.params9] at hA hval
  obtain ⟨v0, vs0, d0, ds0, p0, q0, hargs, rfl, rfl, h0, r0⟩ := trodAll_cons hA
  obtain ⟨v1, vs1, d1, ds1, p1, q1, rfl, rfl, rfl, h1, r1⟩ := trodAll_cons r0
  obtain ⟨rfl, rfl, rfl⟩ := trodAll_nil r1
  obtain rfl : args = #[v0, v1] := by cases args; simp_all
  obtain ⟨A, c, ps, rfl, hP⟩ := arg_formula (hval 0 _ v0 rfl rfl) h0
  obtain ⟨B, d, xs, rfl, hX, _⟩ := arg_sl (E := intE) (st := 26) (by kernel_rfl) (opens_ints W) (hval 1 _ v1 rfl rfl) h1
  exact FnExactReadsOf_spec W [] A c ps hP B d xs hX
theorem fnExactReadsOf_lifted (os : Os) (started : os.Started) (H : Type) (enc : TypeId × Value → H) :
    ReturnsInHanded {} Try.checked os 9 .any (Ytglmfcligilhjaa.Rows.fnExactReadsOfSpec.pre6 enc Try.prog Try.f9 Ytglmfcligilhjaa.Rows.fnExactReadsOfRow.domain false) (Ytglmfcligilhjaa.Rows.fnExactReadsOfSpec.post enc Try.prog Try.f9 false true false false) := by
  refine returnsInHanded_of_change (C := Try.checked) own started (by kernel_rfl) Try.func9
    (ChangeSpec.witness6 (enc := enc) (C := Try.checked) false ⟨#[], #[.agg #[.slice none 0 0], .slice none 0 0], []⟩ 8 (by kernel_rfl) (by kernel_rfl) (by kernel_rfl) (by kernel_rfl)) ?_
  intro W base args ds gs before hval0 hW hcnd _
  have hval : ∀ (j : Nat) t v, Try.f9.params[j]? = some t → args[j]? = some v → Value.okWide Try.prog W .any base t v := hval0
  have hW' := hW
  obtain ⟨p, q, hA0, _⟩ := hW
  have hA : DataW.TrodAll enc Try.prog W 0 (fun _ => true) true Try.f9.params.toList args.toList ds p := hA0
  have hlen : ds.length = Try.f9.params.toList.length := trodAll_len hA
  rw [Try.params9] at hlen
  refine ((fnExactReadsOf_calls hval hA).go W (St.start W)).mono ?_
  rintro e W' ⟨v, L', ⟨rfl, rfl⟩, rfl, hs⟩
  exact ⟨_, rfl, law_post kids full (by rw [Try.params9]; decide) hW' rfl (fun hg => by subst hg; match ds, hlen with | [_, _], _ => exact bool_res) (fun hg => by subst hg; match ds, hlen with | [_, _], _ => rfl) (fun hg => by subst hg; match ds, hlen with | [_, _], _ => rfl) hs.below⟩
theorem fnExactReadsOf_over : Ytglmfcligilhjaa.Rows.fnExactReadsOfRow.holds Try.pinned (OpenSpec.ofChange Ytglmfcligilhjaa.Rows.fnExactReadsOfSpec) :=
  OpenClaim.holds_of_wide 9 Try.f9 rfl rfl rfl rfl rfl rfl rfl ⟨rfl, rfl, rfl, rfl, rfl⟩ rfl rfl rfl rfl rfl (by kernel_rfl) Try.func9 (by kernel_rfl)
    (of_decide_eq_true (by kernel_rfl)) (by unfold Func.isWrapper; first | (rw [if_pos (by decide +kernel)]; kernel_rfl) | (rw [if_neg (by decide +kernel)]; exact ⟨rfl, rfl⟩))
    (fun os started H enc _ => fnExactReadsOf_lifted os started H enc)
end SG
namespace Go.Proofs.Ytglmfcligilhjaa
theorem fnExactReadsOf_proved : Rows.FnExactReadsOfSaid := SG.fnExactReadsOf_over
end Go.Proofs.Ytglmfcligilhjaa
#print axioms Go.Proofs.Ytglmfcligilhjaa.fnExactReadsOf_proved
