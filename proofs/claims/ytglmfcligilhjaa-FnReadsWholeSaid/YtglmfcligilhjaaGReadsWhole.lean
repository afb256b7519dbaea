/- The law FnReadsWhole holds for every input. -/
import Derived.Test.YtglmfcligilhjaaD18
import Derived.Test.YtglmfcligilhjaaD19
import Derived.Test.YtglmfcligilhjaaD15
import Derived.Test.YtglmfcligilhjaaRows
namespace SG
open Go Go.RowKit Go.Proofs Go.Proofs.Ytglmfcligilhjaa Go.ChangeShapes Go.WideShapes Go.Deep
set_option linter.unusedVariables false
set_option linter.unusedSimpArgs false
set_option maxRecDepth 100000
theorem FnReadsWhole_spec (w0 : World) (L : List Asn) (A : Option Addr) (c : Nat) (bs : List Int) (hR : Rd w0 [] byteE A c bs) (hb : ∀ x ∈ bs, 0 ≤ x ∧ x ≤ 255) :
    Tr Try.prog 7 #[.slice A bs.length c] w0 L (fun v L' => v = .bool true ∧ L' = L) := by
  refine Tr.rd_cap (hR.imp Imp.nil) fun hc1 hc2 => ?_
  refine Tr.enter (args := [.slice A bs.length c]) Try.func7 Try.ntmps7 rfl rfl ?_
  refine GC.seq ?_
  refine GC.region ?_
  refine GL.val (by exact EvP.r (Ev.assign rfl)) rfl rfl ?_
  refine GL.nil ?_
  refine GE.seq ?_
  refine GC.seq ?_
  refine GC.seq ?_
  refine GC.region ?_
  refine GL.val (by exact EvP.r (Ev.move rfl)) rfl rfl ?_
  refine GL.val (by exact EvP.r (Ev.len rfl)) rfl rfl ?_
  refine GL.val (by exact EvP.r (Ev.gtr rfl rfl)) rfl rfl ?_
  refine GL.nil ?_
  refine GE.seq ?_
  first | refine GC.if_dec rfl (fun h1 => ?_) (fun h1 => ?_) | refine GC.if_ndec rfl (fun h1 => ?_) (fun h1 => ?_) | refine GC.if_not rfl (fun h1 => ?_) (fun h1 => ?_) | refine GC.if_bool rfl (fun h1 => ?_) (fun h1 => ?_)
  · -- T
    refine GC.seq ?_
    refine GC.region ?_
    refine GL.val (by exact EvP.r (Ev.assign rfl)) rfl rfl ?_
    refine GL.nil ?_
    refine GE.seq ?_
    refine GC.ret ?_
    refine GE.seq_ret ?_
    -- returns, path T
    refine GE.ret_tmp (L' := L) (.inl rfl) rfl rfl (by first | exact Sub.refl | exact Sub.nil | (repeat (first | exact Sub.refl | exact Sub.nil | refine Sub.cons (by (repeat (first | exact Pick.head | apply Pick.tail)); fail_if_success (focus skip)) ?_ | refine Sub.drop ?_))) ?_
    exact ⟨rfl, rfl⟩
  · -- F
    refine GC.skip ?_
    refine GE.seq ?_
    refine GC.seq ?_
    refine GC.region ?_
    refine GL.val (by exact EvP.r (Ev.move rfl)) rfl rfl ?_
    refine GL.call rfl rfl (DrawReadsWhole_spec _ _ _ _ _ (by assumption) (by assumption) (by omega) (by omega)) ?_
    rintro _ _ ⟨D13, e13, fp13, B13, d13, xs13, rfl, fp13a, fp13b, xs13a, xs13b, rfl⟩
    have hrl := rdsL_length fp13 xs13
    have hml := mayV_length fp13
    refine GL.val (by exact EvP.r (Ev.move rfl)) rfl rfl ?_
    refine GL.val (by exact EvP.r (Ev.extract rfl rfl)) rfl rfl ?_
    refine GL.val (by exact EvP.r (Ev.extract rfl rfl)) rfl rfl ?_
    refine GL.alloc rfl ?_; intro g3
    refine GL.store_varN rfl rfl rfl (by (repeat (first | exact Pick.head | apply Pick.tail)); fail_if_success (focus skip)) (by rfl) (by rfl) (by rfl) ?_
    refine GL.val (by exact EvP.r (Ev.assign rfl)) rfl rfl ?_
    refine GL.nil ?_
    refine GE.seq ?_
    refine GC.seq ?_
    refine GC.region ?_
    refine GL.val (by exact (by first | exact Ev.load_blk_all rfl rfl (BlkRd.of_pick (by (repeat (first | exact Pick.head | apply Pick.tail)); fail_if_success (focus skip))) Imp.refl (by rfl) | exact Ev.load_blk_all rfl rfl (by assumption) (by first | exact Imp.refl | exact Imp.nil | ((repeat (first | exact Imp.refl | refine Imp.cons ?_)); fail_if_success (focus skip))) (by rfl))) rfl rfl ?_
    refine GL.val (by exact EvP.r (Ev.move rfl)) rfl rfl ?_
    refine GL.callF rfl rfl (iReadsWhole_spec _ _ _ _ _ (by first | assumption | exact Rd.of_pick (by (repeat (first | exact Pick.head | apply Pick.tail)); fail_if_success (focus skip)) | exact Rd.imp (by assumption) (by first | exact Imp.refl | exact Imp.nil | ((repeat (first | exact Imp.refl | refine Imp.cons ?_)); fail_if_success (focus skip)))) _ _ _ (by first | assumption | exact Rd.of_pick (by (repeat (first | exact Pick.head | apply Pick.tail)); fail_if_success (focus skip)) | exact Rd.imp (by assumption) (by first | exact Imp.refl | exact Imp.nil | ((repeat (first | exact Imp.refl | refine Imp.cons ?_)); fail_if_success (focus skip)))) (by first | omega | (simp; done) | (simp; omega))) ?_
    refine GL.val (by exact EvP.r (Ev.assign rfl)) rfl rfl ?_
    refine GL.nil ?_
    refine GE.seq ?_
    refine GC.seq ?_
    refine GC.seq ?_
    refine GC.region ?_
    refine GL.val (by exact EvP.r (Ev.move rfl)) rfl rfl ?_
    refine GL.val (by exact (by first | exact Ev.load_blk_all rfl rfl (BlkRd.of_pick (by (repeat (first | exact Pick.head | apply Pick.tail)); fail_if_success (focus skip))) Imp.refl (by rfl) | exact Ev.load_blk_all rfl rfl (by assumption) (by first | exact Imp.refl | exact Imp.nil | ((repeat (first | exact Imp.refl | refine Imp.cons ?_)); fail_if_success (focus skip))) (by rfl))) rfl rfl ?_
    refine GL.val (by exact EvP.r (Ev.move rfl)) rfl rfl ?_
    refine GL.callF rfl rfl (sReadsWhole_spec _ _ _ _ _ (by first | assumption | exact Rd.of_pick (by (repeat (first | exact Pick.head | apply Pick.tail)); fail_if_success (focus skip)) | exact Rd.imp (by assumption) (by first | exact Imp.refl | exact Imp.nil | ((repeat (first | exact Imp.refl | refine Imp.cons ?_)); fail_if_success (focus skip)))) _ _ _ (by first | assumption | exact Rd.of_pick (by (repeat (first | exact Pick.head | apply Pick.tail)); fail_if_success (focus skip)) | exact Rd.imp (by assumption) (by first | exact Imp.refl | exact Imp.nil | ((repeat (first | exact Imp.refl | refine Imp.cons ?_)); fail_if_success (focus skip)))) (by first | omega | (simp; done) | (simp; omega)) (by first | omega | (simp; done) | (simp; omega))) ?_
    refine GL.val (by exact EvP.r (Ev.neq_bool rfl rfl)) rfl rfl ?_
    refine GL.val (by exact EvP.r (Ev.move rfl)) rfl rfl ?_
    first | refine GL.gdec rfl rfl (fun h2 => ?_) (fun h2 => ?_) | refine GL.gndec rfl rfl (fun h2 => ?_) (fun h2 => ?_) | refine GL.gnot rfl rfl (fun h2 => ?_) (fun h2 => ?_) | refine GL.gbool rfl rfl (fun h2 => ?_) (fun h2 => ?_)
    · -- Ft
      refine GL.unwant rfl rfl rfl rfl ?_
      refine GL.unwant rfl rfl rfl rfl ?_
      refine GL.unwant rfl rfl rfl rfl ?_
      refine GL.val (by exact EvP.r (Ev.pick_true rfl rfl)) rfl rfl ?_
      refine GL.nil ?_
      refine GE.seq ?_
      refine GC.cond_true rfl ?_
      refine GC.seq ?_
      refine GC.region ?_
      refine GL.val (by exact EvP.r (Ev.move rfl)) rfl rfl ?_
      refine GL.val (by exact (by first | exact Ev.load_blk_all rfl rfl (BlkRd.of_pick (by (repeat (first | exact Pick.head | apply Pick.tail)); fail_if_success (focus skip))) Imp.refl (by rfl) | exact Ev.load_blk_all rfl rfl (by assumption) (by first | exact Imp.refl | exact Imp.nil | ((repeat (first | exact Imp.refl | refine Imp.cons ?_)); fail_if_success (focus skip))) (by rfl))) rfl rfl ?_
      refine GL.val (by exact EvP.r (Ev.move rfl)) rfl rfl ?_
      refine GL.callF rfl rfl (sReadsWhole_spec _ _ _ _ _ (by first | assumption | exact Rd.of_pick (by (repeat (first | exact Pick.head | apply Pick.tail)); fail_if_success (focus skip)) | exact Rd.imp (by assumption) (by first | exact Imp.refl | exact Imp.nil | ((repeat (first | exact Imp.refl | refine Imp.cons ?_)); fail_if_success (focus skip)))) _ _ _ (by first | assumption | exact Rd.of_pick (by (repeat (first | exact Pick.head | apply Pick.tail)); fail_if_success (focus skip)) | exact Rd.imp (by assumption) (by first | exact Imp.refl | exact Imp.nil | ((repeat (first | exact Imp.refl | refine Imp.cons ?_)); fail_if_success (focus skip)))) (by first | omega | (simp; done) | (simp; omega)) (by first | omega | (simp; done) | (simp; omega))) ?_
      refine GL.val (by exact EvP.r (Ev.eql_bool rfl rfl)) rfl rfl ?_
      refine GL.val (by exact EvP.r (Ev.assign rfl)) rfl rfl ?_
      refine GL.nil ?_
      refine GE.seq ?_
      refine GC.ret ?_
      refine GE.seq_ret ?_
      -- returns, path Ft
      refine GE.ret_tmp (L' := L) (.inl rfl) rfl rfl (by first | exact Sub.refl | exact Sub.nil | (repeat (first | exact Sub.refl | exact Sub.nil | refine Sub.cons (by (repeat (first | exact Pick.head | apply Pick.tail)); fail_if_success (focus skip)) ?_ | refine Sub.drop ?_))) ?_
      exact ⟨by simp, rfl⟩
    · -- Ff
      refine GL.want rfl rfl ?_
      refine GL.val (by exact (by first | exact Ev.load_blk_all rfl rfl (BlkRd.of_pick (by (repeat (first | exact Pick.head | apply Pick.tail)); fail_if_success (focus skip))) Imp.refl (by rfl) | exact Ev.load_blk_all rfl rfl (by assumption) (by first | exact Imp.refl | exact Imp.nil | ((repeat (first | exact Imp.refl | refine Imp.cons ?_)); fail_if_success (focus skip))) (by rfl))) rfl rfl ?_
      refine GL.want rfl rfl ?_
      refine GL.callF rfl rfl (ValidFormula_spec _ _ _ _ _ (by first | assumption | exact Rd.of_pick (by (repeat (first | exact Pick.head | apply Pick.tail)); fail_if_success (focus skip)) | exact Rd.imp (by assumption) (by first | exact Imp.refl | exact Imp.nil | ((repeat (first | exact Imp.refl | refine Imp.cons ?_)); fail_if_success (focus skip))))) ?_
      refine GL.want rfl rfl ?_
      refine GL.val (by exact EvP.r (Ev.not rfl)) rfl rfl ?_
      refine GL.val (by exact EvP.r (Ev.pick_false rfl rfl)) rfl rfl ?_
      refine GL.nil ?_
      refine GE.seq ?_
      first | refine GC.if_dec rfl (fun h3 => ?_) (fun h3 => ?_) | refine GC.if_ndec rfl (fun h3 => ?_) (fun h3 => ?_) | refine GC.if_not rfl (fun h3 => ?_) (fun h3 => ?_) | refine GC.if_bool rfl (fun h3 => ?_) (fun h3 => ?_)
      · -- FfT
        refine GC.seq ?_
        refine GC.region ?_
        refine GL.val (by exact EvP.r (Ev.move rfl)) rfl rfl ?_
        refine GL.val (by exact (by first | exact Ev.load_blk_all rfl rfl (BlkRd.of_pick (by (repeat (first | exact Pick.head | apply Pick.tail)); fail_if_success (focus skip))) Imp.refl (by rfl) | exact Ev.load_blk_all rfl rfl (by assumption) (by first | exact Imp.refl | exact Imp.nil | ((repeat (first | exact Imp.refl | refine Imp.cons ?_)); fail_if_success (focus skip))) (by rfl))) rfl rfl ?_
        refine GL.val (by exact EvP.r (Ev.move rfl)) rfl rfl ?_
        refine GL.callF rfl rfl (sReadsWhole_spec _ _ _ _ _ (by first | assumption | exact Rd.of_pick (by (repeat (first | exact Pick.head | apply Pick.tail)); fail_if_success (focus skip)) | exact Rd.imp (by assumption) (by first | exact Imp.refl | exact Imp.nil | ((repeat (first | exact Imp.refl | refine Imp.cons ?_)); fail_if_success (focus skip)))) _ _ _ (by first | assumption | exact Rd.of_pick (by (repeat (first | exact Pick.head | apply Pick.tail)); fail_if_success (focus skip)) | exact Rd.imp (by assumption) (by first | exact Imp.refl | exact Imp.nil | ((repeat (first | exact Imp.refl | refine Imp.cons ?_)); fail_if_success (focus skip)))) (by first | omega | (simp; done) | (simp; omega)) (by first | omega | (simp; done) | (simp; omega))) ?_
        refine GL.val (by exact EvP.r (Ev.eql_bool rfl rfl)) rfl rfl ?_
        refine GL.val (by exact EvP.r (Ev.assign rfl)) rfl rfl ?_
        refine GL.nil ?_
        refine GE.seq ?_
        refine GC.ret ?_
        refine GE.seq_ret ?_
        -- returns, path FfT
        refine GE.ret_tmp (L' := L) (.inl rfl) rfl rfl (by first | exact Sub.refl | exact Sub.nil | (repeat (first | exact Sub.refl | exact Sub.nil | refine Sub.cons (by (repeat (first | exact Pick.head | apply Pick.tail)); fail_if_success (focus skip)) ?_ | refine Sub.drop ?_))) ?_
        exact ⟨by simp, rfl⟩
      · -- FfF
        refine GC.skip ?_
        refine GE.seq ?_
        refine GC.seq ?_
        refine GC.region ?_
        refine GL.val (by exact (by first | exact Ev.load_blk_all rfl rfl (BlkRd.of_pick (by (repeat (first | exact Pick.head | apply Pick.tail)); fail_if_success (focus skip))) Imp.refl (by rfl) | exact Ev.load_blk_all rfl rfl (by assumption) (by first | exact Imp.refl | exact Imp.nil | ((repeat (first | exact Imp.refl | refine Imp.cons ?_)); fail_if_success (focus skip))) (by rfl))) rfl rfl ?_
        refine GL.val (by exact EvP.r (Ev.move rfl)) rfl rfl ?_
        refine GL.callF rfl rfl (ValueOf_spec _ _ _ _ _ (by first | assumption | exact Rd.of_pick (by (repeat (first | exact Pick.head | apply Pick.tail)); fail_if_success (focus skip)) | exact Rd.imp (by assumption) (by first | exact Imp.refl | exact Imp.nil | ((repeat (first | exact Imp.refl | refine Imp.cons ?_)); fail_if_success (focus skip)))) _ _ _ (by first | assumption | exact Rd.of_pick (by (repeat (first | exact Pick.head | apply Pick.tail)); fail_if_success (focus skip)) | exact Rd.imp (by assumption) (by first | exact Imp.refl | exact Imp.nil | ((repeat (first | exact Imp.refl | refine Imp.cons ?_)); fail_if_success (focus skip)))) (by first | omega | (simp; done) | (simp; omega))) ?_
        refine GL.val (by exact EvP.r (Ev.move rfl)) rfl rfl ?_
        refine GL.val (by exact EvP.r (Ev.extract rfl rfl)) rfl rfl ?_
        refine GL.val (by exact EvP.r (Ev.extract rfl rfl)) rfl rfl ?_
        refine GL.val (by exact EvP.r (Ev.assign rfl)) rfl rfl ?_
        refine GL.val (by exact EvP.r (Ev.assign rfl)) rfl rfl ?_
        refine GL.nil ?_
        refine GE.seq ?_
        refine GC.seq ?_
        refine GC.region_any #[false, false, false, false, false, true, false, false, true, false, false, false, false, false] mixed ?_
        refine GA.take 0 #[false, true, true, true, true, true, true, true, true, true, true, true, false, false] rfl (by exact Ev.move rfl) rfl rfl (by kernel_rfl) rfl (by kernel_rfl) (by kernel_rfl) (fun _ _ _ h => h) ?_
        refine GA.take 1 #[true, false, false, false, false, false, false, false, false, false, false, false, false, false] rfl (by exact Ev.move rfl) rfl rfl (by kernel_rfl) rfl (by kernel_rfl) (by kernel_rfl) (fun _ _ _ h => h) ?_
        refine GA.take 2 #[true, true, false, false, false, false, false, false, false, false, false, false, false, false] rfl (by exact Ev.move rfl) rfl rfl (by kernel_rfl) rfl (by kernel_rfl) (by kernel_rfl) (fun _ _ _ h => h) ?_
        first | refine GA.split_dec (d := 42) rfl (fun h4 => ?_) (fun h4 => ?_) | refine GA.split_ndec (d := 42) rfl (fun h4 => ?_) (fun h4 => ?_) | refine GA.split (d := 42) rfl (fun h4 => ?_) (fun h4 => ?_)
        · -- FfFt
          refine GA.read_want 3 #[true, true, true, false, true, false, false, true, false, false, false, false, false, false] rfl rfl rfl (by exact (by first | exact Ev.load_blk_all rfl rfl (BlkRd.of_pick (by (repeat (first | exact Pick.head | apply Pick.tail)); fail_if_success (focus skip))) Imp.refl (by rfl) | exact Ev.load_blk_all rfl rfl (by assumption) (by first | exact Imp.refl | exact Imp.nil | ((repeat (first | exact Imp.refl | refine Imp.cons ?_)); fail_if_success (focus skip))) (by rfl))) rfl (by kernel_rfl) rfl (by kernel_rfl) (by kernel_rfl) (fun _ _ _ h => h) ?_
          refine GA.take_want 4 #[true, true, true, true, false, false, false, true, false, false, false, false, false, false] rfl rfl rfl (by exact Ev.move rfl) rfl (by kernel_rfl) rfl (by kernel_rfl) (by kernel_rfl) (fun _ _ _ h => h) ?_
          refine GA.read_want 7 #[true, true, true, true, true, true, true, false, false, false, false, false, false, false] rfl rfl rfl (by exact (by first | exact Ev.load_blk_all rfl rfl (BlkRd.of_pick (by (repeat (first | exact Pick.head | apply Pick.tail)); fail_if_success (focus skip))) Imp.refl (by rfl) | exact Ev.load_blk_all rfl rfl (by assumption) (by first | exact Imp.refl | exact Imp.nil | ((repeat (first | exact Imp.refl | refine Imp.cons ?_)); fail_if_success (focus skip))) (by rfl))) rfl (by kernel_rfl) rfl (by kernel_rfl) (by kernel_rfl) (fun _ _ _ h => h) ?_
          refine GA.branch (rs := [5]) (JOk.live (by exact (by first | exact Ev.load_blk_all rfl rfl (BlkRd.of_pick (by (repeat (first | exact Pick.head | apply Pick.tail)); fail_if_success (focus skip))) Imp.refl (by rfl) | exact Ev.load_blk_all rfl rfl (by assumption) (by first | exact Imp.refl | exact Imp.nil | ((repeat (first | exact Imp.refl | refine Imp.cons ?_)); fail_if_success (focus skip))) (by rfl))) (JOk.live (by exact (by first | exact Ev.load_blk_all rfl rfl (BlkRd.of_pick (by (repeat (first | exact Pick.head | apply Pick.tail)); fail_if_success (focus skip))) Imp.refl (by rfl) | exact Ev.load_blk_all rfl rfl (by assumption) (by first | exact Imp.refl | exact Imp.nil | ((repeat (first | exact Imp.refl | refine Imp.cons ?_)); fail_if_success (focus skip))) (by rfl))) JOk.nil)) (by kernel_rfl) (by simp) ?_
          refine GAs.cons rfl ?_ ?_
          · -- FfFt op 5
            refine GL.want rfl rfl ?_
            refine GL.call rfl rfl (iReadsOf_spec _ _ _ _ _ (by first | assumption | exact Rd.of_pick (by (repeat (first | exact Pick.head | apply Pick.tail)); fail_if_success (focus skip)) | exact Rd.imp (by assumption) (by first | exact Imp.refl | exact Imp.nil | ((repeat (first | exact Imp.refl | refine Imp.cons ?_)); fail_if_success (focus skip)))) _ _ _ (by first | assumption | exact Rd.of_pick (by (repeat (first | exact Pick.head | apply Pick.tail)); fail_if_success (focus skip)) | exact Rd.imp (by assumption) (by first | exact Imp.refl | exact Imp.nil | ((repeat (first | exact Imp.refl | refine Imp.cons ?_)); fail_if_success (focus skip)))) (by first | omega | (simp; done) | (simp; omega))) ?_
            rintro _ _ ⟨B45, d45, rfl, rfl⟩
            refine GL.nil ?_
            refine GE.any ?_
            refine GA.take_want 6 #[true, true, true, true, true, true, false, true, true, true, false, false, false, false] rfl rfl rfl (by exact Ev.len rfl) rfl (by kernel_rfl) rfl (by kernel_rfl) (by kernel_rfl) (fun _ _ _ h => h) ?_
            refine GA.branch (rs := [8]) (JOk.live (by exact (by first | exact Ev.load_blk_all rfl rfl (BlkRd.of_pick (by (repeat (first | exact Pick.head | apply Pick.tail)); fail_if_success (focus skip))) Imp.refl (by rfl) | exact Ev.load_blk_all rfl rfl (by assumption) (by first | exact Imp.refl | exact Imp.nil | ((repeat (first | exact Imp.refl | refine Imp.cons ?_)); fail_if_success (focus skip))) (by rfl))) (JOk.dead (by kernel_rfl) JOk.nil)) (by kernel_rfl) (by simp) ?_
            refine GAs.cons rfl ?_ ?_
            · -- FfFt op 8
              refine GL.want rfl rfl ?_
              refine GL.call rfl rfl (iMayRead_spec _ _ _ _ _ (by first | assumption | exact Rd.of_pick (by (repeat (first | exact Pick.head | apply Pick.tail)); fail_if_success (focus skip)) | exact Rd.imp (by assumption) (by first | exact Imp.refl | exact Imp.nil | ((repeat (first | exact Imp.refl | refine Imp.cons ?_)); fail_if_success (focus skip))))) ?_
              rintro _ _ ⟨B48, d48, rfl, rfl⟩
              refine GL.nil ?_
              refine GE.any ?_
              refine GA.take_want 9 #[true, true, true, true, true, true, true, true, true, false, false, false, false, false] rfl rfl rfl (by exact Ev.len rfl) rfl (by kernel_rfl) rfl (by kernel_rfl) (by kernel_rfl) (fun _ _ _ h => h) ?_
              refine GA.take_want 10 #[true, true, true, true, true, true, true, true, true, true, false, false, false, false] rfl rfl rfl (by exact Ev.eql rfl rfl) rfl (by kernel_rfl) rfl (by kernel_rfl) (by kernel_rfl) (fun _ _ _ h => h) ?_
              refine GA.take 11 #[true, true, true, true, true, true, true, true, true, true, true, false, false, false] rfl (by exact Ev.pick_true rfl rfl) rfl rfl (by kernel_rfl) rfl (by kernel_rfl) (by kernel_rfl) (fun _ _ _ h => h) ?_
              refine GA.take 12 #[true, true, true, true, true, true, true, true, true, true, true, true, false, false] rfl (by exact Ev.eql_bool rfl rfl) rfl rfl (by kernel_rfl) rfl (by kernel_rfl) (by kernel_rfl) (fun _ _ _ h => h) ?_
              refine GA.take 13 #[true, true, true, true, true, true, true, true, true, true, true, true, true, false] rfl (by exact Ev.assign rfl) rfl rfl (by kernel_rfl) rfl (by kernel_rfl) (by kernel_rfl) (fun _ _ _ h => h) ?_
              refine GA.done (JOk.dead (by kernel_rfl) (JOk.dead (by kernel_rfl) JOk.nil)) (by kernel_rfl) ?_
              refine GE.seq ?_
              refine GC.ret ?_
              -- returns, path FfFt
              refine GE.ret_tmp (L' := L) (.inl rfl) rfl rfl (by first | exact Sub.refl | exact Sub.nil | (repeat (first | exact Sub.refl | exact Sub.nil | refine Sub.cons (by (repeat (first | exact Pick.head | apply Pick.tail)); fail_if_success (focus skip)) ?_ | refine Sub.drop ?_))) ?_
              refine ⟨?_, rfl⟩
              rw [h4, rdsL_yes h4, mayV_yes h3]
              first
                | (simp; done)
                | (simp; omega)
            exact GAs.nil
          exact GAs.nil
        · -- FfFf
          refine GA.unwant 3 #[true, true, true, false, true, false, false, true, false, false, false, false, false, false] rfl rfl rfl rfl rfl (by kernel_rfl) rfl (by kernel_rfl) (by kernel_rfl) (fun _ _ _ h => h) ?_
          refine GA.unwant 4 #[true, true, true, true, false, false, false, true, false, false, false, false, false, false] rfl rfl rfl rfl rfl (by kernel_rfl) rfl (by kernel_rfl) (by kernel_rfl) (fun _ _ _ h => h) ?_
          refine GA.unwant 7 #[true, true, true, true, true, true, true, false, false, false, false, false, false, false] rfl rfl rfl rfl rfl (by kernel_rfl) rfl (by kernel_rfl) (by kernel_rfl) (fun _ _ _ h => h) ?_
          refine GA.branch (rs := [5]) JOk.nil (by kernel_rfl) (by simp) ?_
          refine GAs.cons rfl ?_ ?_
          · -- FfFf op 5
            refine GL.unwant rfl rfl rfl rfl ?_
            refine GL.nil ?_
            refine GE.any ?_
            refine GA.unwant 6 #[true, true, true, true, true, true, false, true, true, true, false, false, false, false] rfl rfl rfl rfl rfl (by kernel_rfl) rfl (by kernel_rfl) (by kernel_rfl) (fun _ _ _ h => h) ?_
            refine GA.branch (rs := [8]) JOk.nil (by kernel_rfl) (by simp) ?_
            refine GAs.cons rfl ?_ ?_
            · -- FfFf op 8
              refine GL.unwant rfl rfl rfl rfl ?_
              refine GL.nil ?_
              refine GE.any ?_
              refine GA.unwant 9 #[true, true, true, true, true, true, true, true, true, false, false, false, false, false] rfl rfl rfl rfl rfl (by kernel_rfl) rfl (by kernel_rfl) (by kernel_rfl) (fun _ _ _ h => h) ?_
              refine GA.unwant 10 #[true, true, true, true, true, true, true, true, true, true, false, false, false, false] rfl rfl rfl rfl rfl (by kernel_rfl) rfl (by kernel_rfl) (by kernel_rfl) (fun _ _ _ h => h) ?_
              refine GA.take 11 #[true, true, true, true, true, true, true, true, true, true, true, false, false, false] rfl (by exact Ev.pick_false rfl rfl) rfl rfl (by kernel_rfl) rfl (by kernel_rfl) (by kernel_rfl) (fun _ _ _ h => h) ?_
              refine GA.take 12 #[true, true, true, true, true, true, true, true, true, true, true, true, false, false] rfl (by exact Ev.eql_bool rfl rfl) rfl rfl (by kernel_rfl) rfl (by kernel_rfl) (by kernel_rfl) (fun _ _ _ h => h) ?_
              refine GA.take 13 #[true, true, true, true, true, true, true, true, true, true, true, true, true, false] rfl (by exact Ev.assign rfl) rfl rfl (by kernel_rfl) rfl (by kernel_rfl) (by kernel_rfl) (fun _ _ _ h => h) ?_
              refine GA.done JOk.nil (by kernel_rfl) ?_
              refine GE.seq ?_
              refine GC.ret ?_
              -- returns, path FfFf
              refine GE.ret_tmp (L' := L) (.inl rfl) rfl rfl (by first | exact Sub.refl | exact Sub.nil | (repeat (first | exact Sub.refl | exact Sub.nil | refine Sub.cons (by (repeat (first | exact Pick.head | apply Pick.tail)); fail_if_success (focus skip)) ?_ | refine Sub.drop ?_))) ?_
              exact ⟨by rw [h4]; simp, rfl⟩
            exact GAs.nil
          exact GAs.nil
theorem fnReadsWhole_calls {H : Type} {enc : TypeId × Value → H} {W : World} {base : Nat} {args : Array Value} {ds : List (DataW H)} {p : List MemPlace} (hval : ∀ (j : Nat) t v, Try.f7.params[j]? = some t → args[j]? = some v → Value.okWide Try.prog W .any base t v)
    (hA : DataW.TrodAll enc Try.prog W 0 (fun _ => true) true Try.f7.params.toList args.toList ds p) : Tr Try.prog 7 args W [] (fun v L' => v = .bool true ∧ L' = []) := by
  rw [Try.params7] at hA hval
  obtain ⟨v0, vs0, d0, ds0, p0, q0, hargs, rfl, rfl, h0, r0⟩ := trodAll_cons hA
  obtain ⟨rfl, rfl, rfl⟩ := trodAll_nil r0
  obtain rfl : args = #[v0] := by cases args; simp_all
  obtain ⟨A, c, bs, rfl, hR, hb⟩ := arg_sl (E := byteE) (st := 22) (by kernel_rfl) (opens_bytes W) (hval 0 _ v0 rfl rfl) h0
  exact FnReadsWhole_spec W [] A c bs hR (fun x hx => wf_u8 (hb x hx))
theorem fnReadsWhole_lifted (os : Os) (started : os.Started) (H : Type) (enc : TypeId × Value → H) :
    ReturnsInHanded {} Try.checked os 7 .any (Ytglmfcligilhjaa.Rows.fnReadsWholeSpec.pre6 enc Try.prog Try.f7 Ytglmfcligilhjaa.Rows.fnReadsWholeRow.domain false) (Ytglmfcligilhjaa.Rows.fnReadsWholeSpec.post enc Try.prog Try.f7 false true false false) := by
  refine returnsInHanded_of_change (C := Try.checked) own started (by kernel_rfl) Try.func7
    (ChangeSpec.witness6 (enc := enc) (C := Try.checked) false ⟨#[], #[.slice none 0 0], []⟩ 8 (by kernel_rfl) (by kernel_rfl) (by kernel_rfl) (by kernel_rfl)) ?_
  intro W base args ds gs before hval0 hW hcnd _
  have hval : ∀ (j : Nat) t v, Try.f7.params[j]? = some t → args[j]? = some v → Value.okWide Try.prog W .any base t v := hval0
  have hW' := hW
  obtain ⟨p, q, hA0, _⟩ := hW
  have hA : DataW.TrodAll enc Try.prog W 0 (fun _ => true) true Try.f7.params.toList args.toList ds p := hA0
  have hlen : ds.length = Try.f7.params.toList.length := trodAll_len hA
  rw [Try.params7] at hlen
  refine ((fnReadsWhole_calls hval hA).go W (St.start W)).mono ?_
  rintro e W' ⟨v, L', ⟨rfl, rfl⟩, rfl, hs⟩
  exact ⟨_, rfl, law_post kids full (by rw [Try.params7]; decide) hW' rfl (fun hg => by subst hg; match ds, hlen with | [_], _ => exact bool_res) (fun hg => by subst hg; match ds, hlen with | [_], _ => rfl) (fun hg => by subst hg; match ds, hlen with | [_], _ => rfl) hs.below⟩
theorem fnReadsWhole_over : Ytglmfcligilhjaa.Rows.fnReadsWholeRow.holds Try.pinned (OpenSpec.ofChange Ytglmfcligilhjaa.Rows.fnReadsWholeSpec) :=
  OpenClaim.holds_of_wide 7 Try.f7 rfl rfl rfl rfl rfl rfl rfl ⟨rfl, rfl, rfl, rfl, rfl⟩ rfl rfl rfl rfl rfl (by kernel_rfl) Try.func7 (by kernel_rfl)
    (of_decide_eq_true (by kernel_rfl)) (by unfold Func.isWrapper; first | (rw [if_pos (by decide +kernel)]; kernel_rfl) | (rw [if_neg (by decide +kernel)]; exact ⟨rfl, rfl⟩))
    (fun os started H enc _ => fnReadsWhole_lifted os started H enc)
end SG
namespace Go.Proofs.Ytglmfcligilhjaa
theorem fnReadsWhole_proved : Rows.FnReadsWholeSaid := SG.fnReadsWhole_over
end Go.Proofs.Ytglmfcligilhjaa
#print axioms Go.Proofs.Ytglmfcligilhjaa.fnReadsWhole_proved
