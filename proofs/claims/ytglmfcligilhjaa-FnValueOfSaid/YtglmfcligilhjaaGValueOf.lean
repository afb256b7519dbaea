/- The law FnValueOf holds for every input. -/
import Derived.Test.YtglmfcligilhjaaD18
import Derived.Test.YtglmfcligilhjaaD19
import Derived.Test.YtglmfcligilhjaaRows
namespace SG
open Go Go.RowKit Go.Proofs Go.Proofs.Ytglmfcligilhjaa Go.ChangeShapes Go.WideShapes Go.Deep
set_option linter.unusedVariables false
set_option linter.unusedSimpArgs false
set_option maxRecDepth 100000
theorem FnValueOf_spec (w0 : World) (L : List Asn) (A : Option Addr) (c : Nat) (bs : List Int) (hR : Rd w0 [] byteE A c bs) (hb : ∀ x ∈ bs, 0 ≤ x ∧ x ≤ 255) :
    Tr Try.prog 8 #[.slice A bs.length c] w0 L (fun v L' => v = .bool true ∧ L' = L) := by
  refine Tr.rd_cap (hR.imp Imp.nil) fun hc1 hc2 => ?_
  refine Tr.enter (args := [.slice A bs.length c]) Try.func8 Try.ntmps8 rfl rfl ?_
  refine GC.seq ?_
  refine GC.region ?_
  refine GL.val (by exact EvP.r (Ev.assign rfl)) rfl rfl ?_
  refine GL.nil ?_
  refine GE.seq ?_
  refine GC.seq ?_
  refine GC.seq ?_
  refine GC.region ?_
  refine GL.val (by exact EvP.r (Ev.move rfl)) rfl rfl ?_
  refine GL.val (by exact EvP.r (Ev.len rfl)) rfl rfl ?_
  refine GL.val (by exact EvP.r (Ev.gtr rfl rfl)) rfl rfl ?_
  refine GL.nil ?_
  refine GE.seq ?_
  first | refine GC.if_dec rfl (fun h1 => ?_) (fun h1 => ?_) | refine GC.if_ndec rfl (fun h1 => ?_) (fun h1 => ?_) | refine GC.if_not rfl (fun h1 => ?_) (fun h1 => ?_) | refine GC.if_bool rfl (fun h1 => ?_) (fun h1 => ?_)
  · -- T
    refine GC.seq ?_
    refine GC.region ?_
    refine GL.val (by exact EvP.r (Ev.assign rfl)) rfl rfl ?_
    refine GL.nil ?_
    refine GE.seq ?_
    refine GC.ret ?_
    refine GE.seq_ret ?_
    -- returns, path T
    refine GE.ret_tmp (L' := L) (.inl rfl) rfl rfl (by first | exact Sub.refl | exact Sub.nil | (repeat (first | exact Sub.refl | exact Sub.nil | refine Sub.cons (by (repeat (first | exact Pick.head | apply Pick.tail)); fail_if_success (focus skip)) ?_ | refine Sub.drop ?_))) ?_
    exact ⟨rfl, rfl⟩
  · -- F
    refine GC.skip ?_
    refine GE.seq ?_
    refine GC.seq ?_
    refine GC.region ?_
    refine GL.val (by exact EvP.r (Ev.move rfl)) rfl rfl ?_
    refine GL.call rfl rfl (DrawValueOf_spec _ _ _ _ _ (by assumption) (by assumption) (by omega) (by omega)) ?_
    rintro _ _ ⟨D19, e19, fp19, B19, d19, xs19, rfl, fp19a, fp19b, xs19a, xs19b, rfl⟩
    have hrl := rdsL_length fp19 xs19
    refine GL.val (by exact EvP.r (Ev.move rfl)) rfl rfl ?_
    refine GL.val (by exact EvP.r (Ev.extract rfl rfl)) rfl rfl ?_
    refine GL.val (by exact EvP.r (Ev.extract rfl rfl)) rfl rfl ?_
    refine GL.alloc rfl ?_; intro g3
    refine GL.store_varN rfl rfl rfl (by (repeat (first | exact Pick.head | apply Pick.tail)); fail_if_success (focus skip)) (by rfl) (by rfl) (by rfl) ?_
    refine GL.val (by exact EvP.r (Ev.assign rfl)) rfl rfl ?_
    refine GL.nil ?_
    refine GE.seq ?_
    refine GC.seq ?_
    refine GC.region ?_
    refine GL.val (by exact (by first | exact Ev.load_blk_all rfl rfl (BlkRd.of_pick (by (repeat (first | exact Pick.head | apply Pick.tail)); fail_if_success (focus skip))) Imp.refl (by rfl) | exact Ev.load_blk_all rfl rfl (by assumption) (by first | exact Imp.refl | exact Imp.nil | ((repeat (first | exact Imp.refl | refine Imp.cons ?_)); fail_if_success (focus skip))) (by rfl))) rfl rfl ?_
    refine GL.val (by exact EvP.r (Ev.move rfl)) rfl rfl ?_
    refine GL.callF rfl rfl (ValueOf_spec _ _ _ _ _ (by first | assumption | exact Rd.of_pick (by (repeat (first | exact Pick.head | apply Pick.tail)); fail_if_success (focus skip)) | exact Rd.imp (by assumption) (by first | exact Imp.refl | exact Imp.nil | ((repeat (first | exact Imp.refl | refine Imp.cons ?_)); fail_if_success (focus skip)))) _ _ _ (by first | assumption | exact Rd.of_pick (by (repeat (first | exact Pick.head | apply Pick.tail)); fail_if_success (focus skip)) | exact Rd.imp (by assumption) (by first | exact Imp.refl | exact Imp.nil | ((repeat (first | exact Imp.refl | refine Imp.cons ?_)); fail_if_success (focus skip)))) (by first | omega | (simp; done) | (simp; omega))) ?_
    refine GL.val (by exact EvP.r (Ev.move rfl)) rfl rfl ?_
    refine GL.val (by exact EvP.r (Ev.extract rfl rfl)) rfl rfl ?_
    refine GL.val (by exact EvP.r (Ev.extract rfl rfl)) rfl rfl ?_
    refine GL.val (by exact EvP.r (Ev.assign rfl)) rfl rfl ?_
    refine GL.val (by exact EvP.r (Ev.assign rfl)) rfl rfl ?_
    refine GL.nil ?_
    refine GE.seq ?_
    refine GC.seq ?_
    refine GC.region ?_
    refine GL.val (by exact (by first | exact Ev.load_blk_all rfl rfl (BlkRd.of_pick (by (repeat (first | exact Pick.head | apply Pick.tail)); fail_if_success (focus skip))) Imp.refl (by rfl) | exact Ev.load_blk_all rfl rfl (by assumption) (by first | exact Imp.refl | exact Imp.nil | ((repeat (first | exact Imp.refl | refine Imp.cons ?_)); fail_if_success (focus skip))) (by rfl))) rfl rfl ?_
    refine GL.val (by exact EvP.r (Ev.move rfl)) rfl rfl ?_
    refine GL.callF rfl rfl (sValueOf_spec _ _ _ _ _ (by first | assumption | exact Rd.of_pick (by (repeat (first | exact Pick.head | apply Pick.tail)); fail_if_success (focus skip)) | exact Rd.imp (by assumption) (by first | exact Imp.refl | exact Imp.nil | ((repeat (first | exact Imp.refl | refine Imp.cons ?_)); fail_if_success (focus skip)))) _ _ _ (by first | assumption | exact Rd.of_pick (by (repeat (first | exact Pick.head | apply Pick.tail)); fail_if_success (focus skip)) | exact Rd.imp (by assumption) (by first | exact Imp.refl | exact Imp.nil | ((repeat (first | exact Imp.refl | refine Imp.cons ?_)); fail_if_success (focus skip)))) (by first | omega | (simp; done) | (simp; omega)) (by first | omega | (simp; done) | (simp; omega))) ?_
    refine GL.val (by exact EvP.r (Ev.move rfl)) rfl rfl ?_
    refine GL.val (by exact EvP.r (Ev.extract rfl rfl)) rfl rfl ?_
    refine GL.val (by exact EvP.r (Ev.extract rfl rfl)) rfl rfl ?_
    refine GL.val (by exact EvP.r (Ev.assign rfl)) rfl rfl ?_
    refine GL.val (by exact EvP.r (Ev.assign rfl)) rfl rfl ?_
    refine GL.nil ?_
    refine GE.seq ?_
    refine GC.seq ?_
    refine GC.seq ?_
    refine GC.region ?_
    refine GL.val (by exact EvP.r (Ev.move rfl)) rfl rfl ?_
    refine GL.val (by exact EvP.r (Ev.move rfl)) rfl rfl ?_
    refine GL.val (by exact EvP.r (Ev.neq rfl rfl)) rfl rfl ?_
    refine GL.val (by exact EvP.r (Ev.move rfl)) rfl rfl ?_
    first | refine GL.gdec rfl rfl (fun h2 => ?_) (fun h2 => ?_) | refine GL.gndec rfl rfl (fun h2 => ?_) (fun h2 => ?_) | refine GL.gnot rfl rfl (fun h2 => ?_) (fun h2 => ?_) | refine GL.gbool rfl rfl (fun h2 => ?_) (fun h2 => ?_)
    · -- Ft
      refine GL.unwant rfl rfl rfl rfl ?_
      refine GL.unwant rfl rfl rfl rfl ?_
      refine GL.unwant rfl rfl rfl rfl ?_
      refine GL.val (by exact EvP.r (Ev.pick_true rfl rfl)) rfl rfl ?_
      refine GL.val (by exact EvP.r (Ev.move rfl)) rfl rfl ?_
      refine GL.unwant rfl rfl rfl rfl ?_
      refine GL.unwant rfl rfl rfl rfl ?_
      refine GL.val (by exact EvP.r (Ev.pick_true rfl rfl)) rfl rfl ?_
      refine GL.nil ?_
      refine GE.seq ?_
      refine GC.cond_true rfl ?_
      refine GC.seq ?_
      refine GC.region ?_
      refine GL.val (by exact EvP.r (Ev.move rfl)) rfl rfl ?_
      refine GL.val (by exact EvP.r (Ev.move rfl)) rfl rfl ?_
      refine GL.val (by exact EvP.r (Ev.eql rfl rfl)) rfl rfl ?_
      refine GL.val (by exact EvP.r (Ev.move rfl)) rfl rfl ?_
      first | refine GL.gdec rfl rfl (fun h3 => ?_) (fun h3 => ?_) | refine GL.gndec rfl rfl (fun h3 => ?_) (fun h3 => ?_) | refine GL.gnot rfl rfl (fun h3 => ?_) (fun h3 => ?_) | refine GL.gbool rfl rfl (fun h3 => ?_) (fun h3 => ?_)
      · -- Ftt
        refine GL.want rfl rfl ?_
        refine GL.val (by exact EvP.r (Ev.move rfl)) rfl rfl ?_
        refine GL.want rfl rfl ?_
        refine GL.val (by exact EvP.r (Ev.move rfl)) rfl rfl ?_
        refine GL.want rfl rfl ?_
        refine GL.val (by exact EvP.r (Ev.eql_bool rfl rfl)) rfl rfl ?_
        refine GL.val (by exact EvP.r (Ev.pick_true rfl rfl)) rfl rfl ?_
        refine GL.val (by exact EvP.r (Ev.assign rfl)) rfl rfl ?_
        refine GL.nil ?_
        refine GE.seq ?_
        refine GC.ret ?_
        refine GE.seq_ret ?_
        -- returns, path Ftt
        refine GE.ret_tmp (L' := L) (.inl rfl) rfl rfl (by first | exact Sub.refl | exact Sub.nil | (repeat (first | exact Sub.refl | exact Sub.nil | refine Sub.cons (by (repeat (first | exact Pick.head | apply Pick.tail)); fail_if_success (focus skip)) ?_ | refine Sub.drop ?_))) ?_
        exact ⟨by simp, rfl⟩
      · -- Ftf
        refine GL.unwant rfl rfl rfl rfl ?_
        refine GL.unwant rfl rfl rfl rfl ?_
        refine GL.unwant rfl rfl rfl rfl ?_
        refine GL.val (by exact EvP.r (Ev.pick_false rfl rfl)) rfl rfl ?_
        refine GL.val (by exact EvP.r (Ev.assign rfl)) rfl rfl ?_
        refine GL.nil ?_
        refine GE.seq ?_
        refine GC.ret ?_
        refine GE.seq_ret ?_
        -- returns, path Ftf
        refine GE.ret_tmp (L' := L) (.inl rfl) rfl rfl (by first | exact Sub.refl | exact Sub.nil | (repeat (first | exact Sub.refl | exact Sub.nil | refine Sub.cons (by (repeat (first | exact Pick.head | apply Pick.tail)); fail_if_success (focus skip)) ?_ | refine Sub.drop ?_))) ?_
        exact absurd rfl h3
    · -- Ff
      refine GL.want rfl rfl ?_
      refine GL.val (by exact EvP.r (Ev.move rfl)) rfl rfl ?_
      refine GL.want rfl rfl ?_
      refine GL.val (by exact EvP.r (Ev.move rfl)) rfl rfl ?_
      refine GL.want rfl rfl ?_
      refine GL.val (by exact EvP.r (Ev.neq_bool rfl rfl)) rfl rfl ?_
      refine GL.val (by exact EvP.r (Ev.pick_false rfl rfl)) rfl rfl ?_
      refine GL.val (by exact EvP.r (Ev.move rfl)) rfl rfl ?_
      first | refine GL.gdec rfl rfl (fun h3 => ?_) (fun h3 => ?_) | refine GL.gndec rfl rfl (fun h3 => ?_) (fun h3 => ?_) | refine GL.gnot rfl rfl (fun h3 => ?_) (fun h3 => ?_) | refine GL.gbool rfl rfl (fun h3 => ?_) (fun h3 => ?_)
      · -- Fft
        refine GL.unwant rfl rfl rfl rfl ?_
        refine GL.unwant rfl rfl rfl rfl ?_
        refine GL.val (by exact EvP.r (Ev.pick_true rfl rfl)) rfl rfl ?_
        refine GL.nil ?_
        refine GE.seq ?_
        refine GC.cond_true rfl ?_
        refine GC.seq ?_
        refine GC.region ?_
        refine GL.val (by exact EvP.r (Ev.move rfl)) rfl rfl ?_
        refine GL.val (by exact EvP.r (Ev.move rfl)) rfl rfl ?_
        refine GL.val (by exact EvP.r (Ev.eql rfl rfl)) rfl rfl ?_
        refine GL.val (by exact EvP.r (Ev.move rfl)) rfl rfl ?_
        first | refine GL.gdec rfl rfl (fun h4 => ?_) (fun h4 => ?_) | refine GL.gndec rfl rfl (fun h4 => ?_) (fun h4 => ?_) | refine GL.gnot rfl rfl (fun h4 => ?_) (fun h4 => ?_) | refine GL.gbool rfl rfl (fun h4 => ?_) (fun h4 => ?_)
        · -- Fftt
          refine GL.want rfl rfl ?_
          refine GL.val (by exact EvP.r (Ev.move rfl)) rfl rfl ?_
          refine GL.want rfl rfl ?_
          refine GL.val (by exact EvP.r (Ev.move rfl)) rfl rfl ?_
          refine GL.want rfl rfl ?_
          refine GL.val (by exact EvP.r (Ev.eql_bool rfl rfl)) rfl rfl ?_
          refine GL.val (by exact EvP.r (Ev.pick_true rfl rfl)) rfl rfl ?_
          refine GL.val (by exact EvP.r (Ev.assign rfl)) rfl rfl ?_
          refine GL.nil ?_
          refine GE.seq ?_
          refine GC.ret ?_
          refine GE.seq_ret ?_
          -- returns, path Fftt
          refine GE.ret_tmp (L' := L) (.inl rfl) rfl rfl (by first | exact Sub.refl | exact Sub.nil | (repeat (first | exact Sub.refl | exact Sub.nil | refine Sub.cons (by (repeat (first | exact Pick.head | apply Pick.tail)); fail_if_success (focus skip)) ?_ | refine Sub.drop ?_))) ?_
          exact ⟨by simp, rfl⟩
        · -- Fftf
          refine GL.unwant rfl rfl rfl rfl ?_
          refine GL.unwant rfl rfl rfl rfl ?_
          refine GL.unwant rfl rfl rfl rfl ?_
          refine GL.val (by exact EvP.r (Ev.pick_false rfl rfl)) rfl rfl ?_
          refine GL.val (by exact EvP.r (Ev.assign rfl)) rfl rfl ?_
          refine GL.nil ?_
          refine GE.seq ?_
          refine GC.ret ?_
          refine GE.seq_ret ?_
          -- returns, path Fftf
          refine GE.ret_tmp (L' := L) (.inl rfl) rfl rfl (by first | exact Sub.refl | exact Sub.nil | (repeat (first | exact Sub.refl | exact Sub.nil | refine Sub.cons (by (repeat (first | exact Pick.head | apply Pick.tail)); fail_if_success (focus skip)) ?_ | refine Sub.drop ?_))) ?_
          exact absurd rfl h4
      · -- Fff
        refine GL.want rfl rfl ?_
        refine GL.val (by exact EvP.r (Ev.move rfl)) rfl rfl ?_
        refine GL.want rfl rfl ?_
        refine GL.val (by exact EvP.r (Ev.not rfl)) rfl rfl ?_
        refine GL.val (by exact EvP.r (Ev.pick_false rfl rfl)) rfl rfl ?_
        refine GL.nil ?_
        refine GE.seq ?_
        first | refine GC.if_dec rfl (fun h4 => ?_) (fun h4 => ?_) | refine GC.if_ndec rfl (fun h4 => ?_) (fun h4 => ?_) | refine GC.if_not rfl (fun h4 => ?_) (fun h4 => ?_) | refine GC.if_bool rfl (fun h4 => ?_) (fun h4 => ?_)
        · -- FffT
          refine GC.seq ?_
          refine GC.region ?_
          refine GL.val (by exact EvP.r (Ev.move rfl)) rfl rfl ?_
          refine GL.val (by exact EvP.r (Ev.move rfl)) rfl rfl ?_
          refine GL.val (by exact EvP.r (Ev.eql rfl rfl)) rfl rfl ?_
          refine GL.val (by exact EvP.r (Ev.move rfl)) rfl rfl ?_
          first | refine GL.gdec rfl rfl (fun h5 => ?_) (fun h5 => ?_) | refine GL.gndec rfl rfl (fun h5 => ?_) (fun h5 => ?_) | refine GL.gnot rfl rfl (fun h5 => ?_) (fun h5 => ?_) | refine GL.gbool rfl rfl (fun h5 => ?_) (fun h5 => ?_)
          · -- FffTt
            refine GL.want rfl rfl ?_
            refine GL.val (by exact EvP.r (Ev.move rfl)) rfl rfl ?_
            refine GL.want rfl rfl ?_
            refine GL.val (by exact EvP.r (Ev.move rfl)) rfl rfl ?_
            refine GL.want rfl rfl ?_
            refine GL.val (by exact EvP.r (Ev.eql_bool rfl rfl)) rfl rfl ?_
            refine GL.val (by exact EvP.r (Ev.pick_true rfl rfl)) rfl rfl ?_
            refine GL.val (by exact EvP.r (Ev.assign rfl)) rfl rfl ?_
            refine GL.nil ?_
            refine GE.seq ?_
            refine GC.ret ?_
            refine GE.seq_ret ?_
            -- returns, path FffTt
            refine GE.ret_tmp (L' := L) (.inl rfl) rfl rfl (by first | exact Sub.refl | exact Sub.nil | (repeat (first | exact Sub.refl | exact Sub.nil | refine Sub.cons (by (repeat (first | exact Pick.head | apply Pick.tail)); fail_if_success (focus skip)) ?_ | refine Sub.drop ?_))) ?_
            exact ⟨by simp, rfl⟩
          · -- FffTf
            refine GL.unwant rfl rfl rfl rfl ?_
            refine GL.unwant rfl rfl rfl rfl ?_
            refine GL.unwant rfl rfl rfl rfl ?_
            refine GL.val (by exact EvP.r (Ev.pick_false rfl rfl)) rfl rfl ?_
            refine GL.val (by exact EvP.r (Ev.assign rfl)) rfl rfl ?_
            refine GL.nil ?_
            refine GE.seq ?_
            refine GC.ret ?_
            refine GE.seq_ret ?_
            -- returns, path FffTf
            refine GE.ret_tmp (L' := L) (.inl rfl) rfl rfl (by first | exact Sub.refl | exact Sub.nil | (repeat (first | exact Sub.refl | exact Sub.nil | refine Sub.cons (by (repeat (first | exact Pick.head | apply Pick.tail)); fail_if_success (focus skip)) ?_ | refine Sub.drop ?_))) ?_
            exact absurd rfl h5
        · -- FffF
          refine GC.skip ?_
          refine GE.seq ?_
          refine GC.seq ?_
          refine GC.region ?_
          refine GL.val (by exact (by first | exact Ev.load_blk_all rfl rfl (BlkRd.of_pick (by (repeat (first | exact Pick.head | apply Pick.tail)); fail_if_success (focus skip))) Imp.refl (by rfl) | exact Ev.load_blk_all rfl rfl (by assumption) (by first | exact Imp.refl | exact Imp.nil | ((repeat (first | exact Imp.refl | refine Imp.cons ?_)); fail_if_success (focus skip))) (by rfl))) rfl rfl ?_
          refine GL.val (by exact EvP.r (Ev.move rfl)) rfl rfl ?_
          refine GL.call rfl rfl (iReadsOf_spec _ _ _ _ _ (by first | assumption | exact Rd.of_pick (by (repeat (first | exact Pick.head | apply Pick.tail)); fail_if_success (focus skip)) | exact Rd.imp (by assumption) (by first | exact Imp.refl | exact Imp.nil | ((repeat (first | exact Imp.refl | refine Imp.cons ?_)); fail_if_success (focus skip)))) _ _ _ (by first | assumption | exact Rd.of_pick (by (repeat (first | exact Pick.head | apply Pick.tail)); fail_if_success (focus skip)) | exact Rd.imp (by assumption) (by first | exact Imp.refl | exact Imp.nil | ((repeat (first | exact Imp.refl | refine Imp.cons ?_)); fail_if_success (focus skip)))) (by first | omega | (simp; done) | (simp; omega))) ?_
          rintro _ _ ⟨B56, d56, rfl, rfl⟩
          refine GL.val (by exact EvP.r (Ev.assign rfl)) rfl rfl ?_
          refine GL.nil ?_
          refine GE.seq ?_
          refine GC.seq ?_
          refine GC.seq ?_
          refine GC.region ?_
          refine GL.val (by exact EvP.r (Ev.assign rfl)) rfl rfl ?_
          refine GL.nil ?_
          refine GE.seq ?_
          refine GC.block ?_
          -- loop 1: carried slots [10]
          have hfit := fitV_iff.1 h4
          refine GC.loopK (α := Nat) (fun i => i ≤ xs19.length) (fun i => [(10, .int .i64 i)]) [(3, _), (4, _), (5, _), (9, _)] (fun i => row intE B56 d56 (rdsL fp19 xs19) :: blk g3 25 [.slice D19 fp19.length e19] :: row partE D19 e19 fp19 :: row intE B19 d19 xs19 :: L) (fun i => xs19.length - i) 0 (by repeat (first | exact Keeps.nil | refine Keeps.cons rfl ?_)) (by first | exact Sub.refl | exact Sub.nil | (repeat (first | exact Sub.refl | exact Sub.nil | refine Sub.cons (by (repeat (first | exact Pick.head | apply Pick.tail)); fail_if_success (focus skip)) ?_ | refine Sub.drop ?_))) (Nat.zero_le _) ?_
          rintro i hi
          refine GC.seq ?_
          refine GC.seq ?_
          refine GC.region ?_
          refine GL.val (by exact EvP.r (Ev.move rfl)) rfl rfl ?_
          refine GL.val (by exact EvP.r (Ev.move rfl)) rfl rfl ?_
          refine GL.val (by exact EvP.r (Ev.len rfl)) rfl rfl ?_
          refine GL.val (by exact EvP.r (Ev.lss rfl rfl)) rfl rfl ?_
          refine GL.nil ?_
          refine GE.seq ?_
          first | refine GC.if_dec rfl (fun h5 => ?_) (fun h5 => ?_) | refine GC.if_ndec rfl (fun h5 => ?_) (fun h5 => ?_) | refine GC.if_not rfl (fun h5 => ?_) (fun h5 => ?_) | refine GC.if_bool rfl (fun h5 => ?_) (fun h5 => ?_)
          · -- FffFT
            have hil : i < xs19.length := by omega
            have hxi := hfit.2.2.1 _ (List.getElem_mem hil)
            obtain ⟨hxi0, hxi1⟩ := hxi
            refine GC.skip ?_
            refine GE.seq ?_
            refine GC.seq ?_
            refine GC.block ?_
            refine GC.seq ?_
            refine GC.seq ?_
            refine GC.region ?_
            refine GL.val (by exact EvP.r (Ev.move rfl)) rfl rfl ?_
            refine GL.val (by exact EvP.r (Ev.move rfl)) rfl rfl ?_
            refine GL.callF rfl rfl (isIn_spec _ _ _ _ _ (by first | assumption | exact Rd.of_pick (by (repeat (first | exact Pick.head | apply Pick.tail)); fail_if_success (focus skip)) | exact Rd.imp (by assumption) (by first | exact Imp.refl | exact Imp.nil | ((repeat (first | exact Imp.refl | refine Imp.cons ?_)); fail_if_success (focus skip)))) _ (by first | omega | (simp; done) | (simp; omega))) ?_
            refine GL.nil ?_
            refine GE.seq ?_
            first | refine GC.if_dec rfl (fun h6 => ?_) (fun h6 => ?_) | refine GC.if_ndec rfl (fun h6 => ?_) (fun h6 => ?_) | refine GC.if_not rfl (fun h6 => ?_) (fun h6 => ?_) | refine GC.if_bool rfl (fun h6 => ?_) (fun h6 => ?_)
            · -- FffFTT
              refine GC.exit ?_
              refine GE.seq_exit ?_
              refine GE.block_exit ?_
              refine GE.seq ?_
              refine GC.region ?_
              refine GL.val (by exact EvP.r (Ev.move rfl)) rfl rfl ?_
              refine GL.val (by exact EvP.r (Ev.add rfl rfl (by omega))) rfl rfl ?_
              refine GL.val (by exact EvP.r (Ev.assign rfl)) rfl rfl ?_
              refine GL.nil ?_
              -- round of loop 1, path FffFTT
              refine GE.round (i + 1) (by omega) (by omega) (by repeat (first | exact Keeps.nil | refine Keeps.cons rfl ?_)) (by first | exact Sub.refl | exact Sub.nil | (repeat (first | exact Sub.refl | exact Sub.nil | refine Sub.cons (by (repeat (first | exact Pick.head | apply Pick.tail)); fail_if_success (focus skip)) ?_ | refine Sub.drop ?_)))
            · -- FffFTF
              have hu := unread hfit hil (v := (xs19[i] + 17) % 1000) ⟨by omega, by omega⟩ (by simpa using h6)
              have hrl2 := rdsL_length fp19 (xs19.set i ((xs19[i] + 17) % 1000))
              refine GC.skip ?_
              refine GE.seq ?_
              refine GC.seq ?_
              refine GC.region ?_
              refine GL.buildSlice rfl (by first | exact bsInt0 | exact bsInt1 _ | exact bsInt2 _ _ | exact bsInt3 _ _ _ | exact bsInt4 _ _ _ _ | exact bsInt5 _ _ _ _ _ | exact bsInt6 _ _ _ _ _ _ | exact bsInt7 _ _ _ _ _ _ _ | exact bsInt8 _ _ _ _ _ _ _ _ | exact bsInt9 _ _ _ _ _ _ _ _ _ | exact bsInt10 _ _ _ _ _ _ _ _ _ _ | exact bsPart0 | exact bsPart1 ⟨_, _, _, _, _⟩ | exact bsNode1 ⟨_, _, _, _⟩ | exact bsPtr3 _ _ _) rfl (by decide) rfl ?_; intro g66
              refine GL.val (by exact EvP.r (Ev.move rfl)) rfl rfl ?_
              first | (refine GL.append rfl rfl (by (repeat (first | exact Pick.head | apply Pick.tail)); fail_if_success (focus skip)) (by assumption) (by first | exact Imp.refl | exact Imp.nil | ((repeat (first | exact Imp.refl | refine Imp.cons ?_)); fail_if_success (focus skip))) (by first | rfl | (simp; done) | (simp; omega)) (by first | rfl | (simp; done) | (simp; omega)) (by first | omega | (simp; omega)) (by first | omega | (simp; omega)) rfl ?_; intro A68 c68) | (refine GL.append rfl rfl (by (repeat (first | exact Pick.head | apply Pick.tail)); fail_if_success (focus skip)) (Rd.of_pick (by (repeat (first | exact Pick.head | apply Pick.tail)); fail_if_success (focus skip))) Imp.refl (by first | rfl | (simp; done) | (simp; omega)) (by first | rfl | (simp; done) | (simp; omega)) (by first | omega | (simp; omega)) (by first | omega | (simp; omega)) rfl ?_; intro A68 c68)
              rw [List.nil_append]
              refine GL.val (by exact EvP.r (Ev.assign rfl)) rfl rfl ?_
              refine GL.nil ?_
              refine GE.seq ?_
              refine GC.seq ?_
              refine GC.region ?_
              refine GL.val (by exact EvP.r (Ev.move rfl)) rfl rfl ?_
              refine GL.val (by exact EvP.r (Ev.move rfl)) rfl rfl ?_
              refine GL.val (by exact EvP.r (Ev.move rfl)) rfl rfl ?_
              refine GL.val (by exact EvP.r (Ev.move rfl)) rfl rfl ?_
              refine GL.val (by exact (by first | exact Ev.index rfl rfl (by assumption) (by first | exact Imp.refl | exact Imp.nil | ((repeat (first | exact Imp.refl | refine Imp.cons ?_)); fail_if_success (focus skip))) (by first | rfl | exact (Int.toNat_of_nonneg (by omega)).symm) (by first | omega | (show 0 < _; omega) | (simp; omega)) (by first | exact Nat.le_refl _ | (simp; done) | omega | (simp; omega)) | exact Ev.index rfl rfl (Rd.of_pick (by (repeat (first | exact Pick.head | apply Pick.tail)); fail_if_success (focus skip))) Imp.refl (by first | rfl | exact (Int.toNat_of_nonneg (by omega)).symm) (by first | omega | (show 0 < _; omega) | (simp; omega)) (by first | exact Nat.le_refl _ | (simp; done) | omega | (simp; omega)))) rfl rfl ?_
              refine GL.val (by exact (by first | exact Ev.load_el rfl (by assumption) (by first | exact Imp.refl | exact Imp.nil | ((repeat (first | exact Imp.refl | refine Imp.cons ?_)); fail_if_success (focus skip))) rfl rfl rfl (List.getElem?_eq_getElem (by first | omega | (simp; done) | (simp; omega))) | exact Ev.load_el rfl (Rd.of_pick (by (repeat (first | exact Pick.head | apply Pick.tail)); fail_if_success (focus skip))) Imp.refl rfl rfl rfl (List.getElem?_eq_getElem (by first | omega | (simp; done) | (simp; omega))))) rfl rfl ?_
              refine GL.val (by exact EvP.r (Ev.add rfl rfl (by omega))) rfl rfl ?_
              refine GL.val (by exact EvP.r (Ev.rem rfl rfl (by omega) (by omega))) rfl rfl ?_
              refine GL.val (by exact (by first | exact Ev.index rfl rfl (by assumption) (by first | exact Imp.refl | exact Imp.nil | ((repeat (first | exact Imp.refl | refine Imp.cons ?_)); fail_if_success (focus skip))) (by first | rfl | exact (Int.toNat_of_nonneg (by omega)).symm) (by first | omega | (show 0 < _; omega) | (simp; omega)) (by first | exact Nat.le_refl _ | (simp; done) | omega | (simp; omega)) | exact Ev.index rfl rfl (Rd.of_pick (by (repeat (first | exact Pick.head | apply Pick.tail)); fail_if_success (focus skip))) Imp.refl (by first | rfl | exact (Int.toNat_of_nonneg (by omega)).symm) (by first | omega | (show 0 < _; omega) | (simp; omega)) (by first | exact Nat.le_refl _ | (simp; done) | omega | (simp; omega)))) rfl rfl ?_
              refine GL.store_el rfl rfl (by (repeat (first | exact Pick.head | apply Pick.tail)); fail_if_success (focus skip)) rfl rfl rfl (by first | omega | (simp; done) | (simp; omega)) ?_
              refine GL.nil ?_
              refine GE.seq ?_
              refine GC.seq ?_
              refine GC.region ?_
              refine GL.val (by exact (by first | exact Ev.load_blk_all rfl rfl (BlkRd.of_pick (by (repeat (first | exact Pick.head | apply Pick.tail)); fail_if_success (focus skip))) Imp.refl (by rfl) | exact Ev.load_blk_all rfl rfl (by assumption) (by first | exact Imp.refl | exact Imp.nil | ((repeat (first | exact Imp.refl | refine Imp.cons ?_)); fail_if_success (focus skip))) (by rfl))) rfl rfl ?_
              refine GL.val (by exact EvP.r (Ev.move rfl)) rfl rfl ?_
              refine GL.callF rfl rfl (Tr.len2 (xs19.set i ((xs19[i] + 17) % 1000)) (by rw [List.length_set]) (ValueOf_spec _ _ _ _ _ (by first | assumption | exact Rd.of_pick (by (repeat (first | exact Pick.head | apply Pick.tail)); fail_if_success (focus skip)) | exact Rd.imp (by assumption) (by first | exact Imp.refl | exact Imp.nil | ((repeat (first | exact Imp.refl | refine Imp.cons ?_)); fail_if_success (focus skip)))) _ _ _ (by first | assumption | exact Rd.of_pick (by (repeat (first | exact Pick.head | apply Pick.tail)); fail_if_success (focus skip)) | exact Rd.imp (by assumption) (by first | exact Imp.refl | exact Imp.nil | ((repeat (first | exact Imp.refl | refine Imp.cons ?_)); fail_if_success (focus skip)))) (by rw [List.length_set]; omega))) ?_
              refine GL.val (by exact EvP.r (Ev.move rfl)) rfl rfl ?_
              refine GL.val (by exact EvP.r (Ev.extract rfl rfl)) rfl rfl ?_
              refine GL.val (by exact EvP.r (Ev.extract rfl rfl)) rfl rfl ?_
              refine GL.val (by exact EvP.r (Ev.assign rfl)) rfl rfl ?_
              refine GL.val (by exact EvP.r (Ev.assign rfl)) rfl rfl ?_
              refine GL.nil ?_
              refine GE.seq ?_
              refine GC.seq ?_
              refine GC.region ?_
              refine GL.val (by exact EvP.r (Ev.move rfl)) rfl rfl ?_
              refine GL.val (by exact EvP.r (Ev.not rfl)) rfl rfl ?_
              refine GL.val (by exact EvP.r (Ev.move rfl)) rfl rfl ?_
              first | refine GL.gdec rfl rfl (fun h7 => ?_) (fun h7 => ?_) | refine GL.gndec rfl rfl (fun h7 => ?_) (fun h7 => ?_) | refine GL.gnot rfl rfl (fun h7 => ?_) (fun h7 => ?_) | refine GL.gbool rfl rfl (fun h7 => ?_) (fun h7 => ?_)
              · -- FffFTFt
                rw [hu.1] at h7; cases h7
              · -- FffFTFf
                refine GL.want rfl rfl ?_
                refine GL.val (by exact EvP.r (Ev.move rfl)) rfl rfl ?_
                refine GL.want rfl rfl ?_
                refine GL.val (by exact EvP.r (Ev.move rfl)) rfl rfl ?_
                refine GL.want rfl rfl ?_
                refine GL.val (by exact EvP.r (Ev.neq rfl rfl)) rfl rfl ?_
                refine GL.val (by exact EvP.r (Ev.pick_false rfl rfl)) rfl rfl ?_
                refine GL.val (by exact EvP.r (Ev.move rfl)) rfl rfl ?_
                first | refine GL.gdec rfl rfl (fun h8 => ?_) (fun h8 => ?_) | refine GL.gndec rfl rfl (fun h8 => ?_) (fun h8 => ?_) | refine GL.gnot rfl rfl (fun h8 => ?_) (fun h8 => ?_) | refine GL.gbool rfl rfl (fun h8 => ?_) (fun h8 => ?_)
                · -- FffFTFft
                  exact absurd (by rw [h7, h4, hu.2.1]) h8
                · -- FffFTFff
                  refine GL.want rfl rfl ?_
                  refine GL.val (by exact (by first | exact Ev.load_blk_all rfl rfl (BlkRd.of_pick (by (repeat (first | exact Pick.head | apply Pick.tail)); fail_if_success (focus skip))) Imp.refl (by rfl) | exact Ev.load_blk_all rfl rfl (by assumption) (by first | exact Imp.refl | exact Imp.nil | ((repeat (first | exact Imp.refl | refine Imp.cons ?_)); fail_if_success (focus skip))) (by rfl))) rfl rfl ?_
                  refine GL.want rfl rfl ?_
                  refine GL.val (by exact EvP.r (Ev.move rfl)) rfl rfl ?_
                  refine GL.want rfl rfl ?_
                  refine GL.call rfl rfl (Tr.len2 (xs19.set i ((xs19[i] + 17) % 1000)) (by rw [List.length_set]) (iReadsOf_spec _ _ _ _ _ (by first | assumption | exact Rd.of_pick (by (repeat (first | exact Pick.head | apply Pick.tail)); fail_if_success (focus skip)) | exact Rd.imp (by assumption) (by first | exact Imp.refl | exact Imp.nil | ((repeat (first | exact Imp.refl | refine Imp.cons ?_)); fail_if_success (focus skip)))) _ _ _ (by first | assumption | exact Rd.of_pick (by (repeat (first | exact Pick.head | apply Pick.tail)); fail_if_success (focus skip)) | exact Rd.imp (by assumption) (by first | exact Imp.refl | exact Imp.nil | ((repeat (first | exact Imp.refl | refine Imp.cons ?_)); fail_if_success (focus skip)))) (by rw [List.length_set]; omega))) ?_
                  rintro _ _ ⟨B94, d94, rfl, rfl⟩
                  refine GL.want rfl rfl ?_
                  refine GL.val (by exact EvP.r (Ev.move rfl)) rfl rfl ?_
                  refine GL.want rfl rfl ?_
                  refine GL.callF rfl rfl (equalInts_spec _ _ _ _ _ (by first | assumption | exact Rd.of_pick (by (repeat (first | exact Pick.head | apply Pick.tail)); fail_if_success (focus skip)) | exact Rd.imp (by assumption) (by first | exact Imp.refl | exact Imp.nil | ((repeat (first | exact Imp.refl | refine Imp.cons ?_)); fail_if_success (focus skip)))) _ _ _ (by first | assumption | exact Rd.of_pick (by (repeat (first | exact Pick.head | apply Pick.tail)); fail_if_success (focus skip)) | exact Rd.imp (by assumption) (by first | exact Imp.refl | exact Imp.nil | ((repeat (first | exact Imp.refl | refine Imp.cons ?_)); fail_if_success (focus skip)))) (by first | omega | (simp; done) | (simp; omega))) ?_
                  refine GL.want rfl rfl ?_
                  refine GL.val (by exact EvP.r (Ev.not rfl)) rfl rfl ?_
                  refine GL.val (by exact EvP.r (Ev.pick_false rfl rfl)) rfl rfl ?_
                  refine GL.nil ?_
                  refine GE.seq ?_
                  first | refine GC.if_dec rfl (fun h9 => ?_) (fun h9 => ?_) | refine GC.if_ndec rfl (fun h9 => ?_) (fun h9 => ?_) | refine GC.if_not rfl (fun h9 => ?_) (fun h9 => ?_) | refine GC.if_bool rfl (fun h9 => ?_) (fun h9 => ?_)
                  · -- FffFTFffT
                    exact absurd hu.2.2 h9
                  · -- FffFTFffF
                    refine GC.skip ?_
                    refine GE.block ?_
                    refine GE.seq ?_
                    refine GC.region ?_
                    refine GL.val (by exact EvP.r (Ev.move rfl)) rfl rfl ?_
                    refine GL.val (by exact EvP.r (Ev.add rfl rfl (by omega))) rfl rfl ?_
                    refine GL.val (by exact EvP.r (Ev.assign rfl)) rfl rfl ?_
                    refine GL.nil ?_
                    -- round of loop 1, path FffFTFffF
                    refine GE.round (i + 1) (by omega) (by omega) (by repeat (first | exact Keeps.nil | refine Keeps.cons rfl ?_)) (by first | exact Sub.refl | exact Sub.nil | (repeat (first | exact Sub.refl | exact Sub.nil | refine Sub.cons (by (repeat (first | exact Pick.head | apply Pick.tail)); fail_if_success (focus skip)) ?_ | refine Sub.drop ?_)))
          · -- FffFF
            have hin := valL_in hfit
            obtain ⟨hin0, hin1⟩ := hin
            rw [h4]
            refine GC.exit ?_
            refine GE.seq_exit ?_
            refine GE.loop_exit ?_
            refine GE.block_exit ?_
            refine GE.seq ?_
            refine GC.seq ?_
            refine GC.region ?_
            refine GL.val (by exact EvP.r (Ev.move rfl)) rfl rfl ?_
            refine GL.val (by exact EvP.r (Ev.geq rfl rfl)) rfl rfl ?_
            refine GL.val (by exact EvP.r (Ev.move rfl)) rfl rfl ?_
            first | refine GL.gdec rfl rfl (fun h6 => ?_) (fun h6 => ?_) | refine GL.gndec rfl rfl (fun h6 => ?_) (fun h6 => ?_) | refine GL.gnot rfl rfl (fun h6 => ?_) (fun h6 => ?_) | refine GL.gbool rfl rfl (fun h6 => ?_) (fun h6 => ?_)
            · -- FffFFt
              refine GL.want rfl rfl ?_
              refine GL.val (by exact EvP.r (Ev.move rfl)) rfl rfl ?_
              refine GL.want rfl rfl ?_
              refine GL.val (by exact EvP.r (Ev.lss rfl rfl)) rfl rfl ?_
              refine GL.val (by exact EvP.r (Ev.pick_true rfl rfl)) rfl rfl ?_
              refine GL.val (by exact EvP.r (Ev.assign rfl)) rfl rfl ?_
              refine GL.nil ?_
              refine GE.seq ?_
              refine GC.ret ?_
              -- returns, path FffFFt
              refine GE.ret_tmp (L' := L) (.inl rfl) rfl rfl (by first | exact Sub.refl | exact Sub.nil | (repeat (first | exact Sub.refl | exact Sub.nil | refine Sub.cons (by (repeat (first | exact Pick.head | apply Pick.tail)); fail_if_success (focus skip)) ?_ | refine Sub.drop ?_))) ?_
              exact ⟨by simp; omega, rfl⟩
            · -- FffFFf
              exact absurd (by simpa using hin0) h6
theorem fnValueOf_calls {H : Type} {enc : TypeId × Value → H} {W : World} {base : Nat} {args : Array Value} {ds : List (DataW H)} {p : List MemPlace} (hval : ∀ (j : Nat) t v, Try.f8.params[j]? = some t → args[j]? = some v → Value.okWide Try.prog W .any base t v)
    (hA : DataW.TrodAll enc Try.prog W 0 (fun _ => true) true Try.f8.params.toList args.toList ds p) : Tr Try.prog 8 args W [] (fun v L' => v = .bool true ∧ L' = []) := by
  rw [Try.params8] at hA hval
  obtain ⟨v0, vs0, d0, ds0, p0, q0, hargs, rfl, rfl, h0, r0⟩ := trodAll_cons hA
  obtain ⟨rfl, rfl, rfl⟩ := trodAll_nil r0
  obtain rfl : args = #[v0] := by cases args; simp_all
  obtain ⟨A, c, bs, rfl, hR, hb⟩ := arg_sl (E := byteE) (st := 22) (by kernel_rfl) (opens_bytes W) (hval 0 _ v0 rfl rfl) h0
  exact FnValueOf_spec W [] A c bs hR (fun x hx => wf_u8 (hb x hx))
theorem fnValueOf_lifted (os : Os) (started : os.Started) (H : Type) (enc : TypeId × Value → H) :
    ReturnsInHanded {} Try.checked os 8 .any (Ytglmfcligilhjaa.Rows.fnValueOfSpec.pre6 enc Try.prog Try.f8 Ytglmfcligilhjaa.Rows.fnValueOfRow.domain false) (Ytglmfcligilhjaa.Rows.fnValueOfSpec.post enc Try.prog Try.f8 false true false false) := by
  refine returnsInHanded_of_change (C := Try.checked) own started (by kernel_rfl) Try.func8
    (ChangeSpec.witness6 (enc := enc) (C := Try.checked) false ⟨#[], #[.slice none 0 0], []⟩ 8 (by kernel_rfl) (by kernel_rfl) (by kernel_rfl) (by kernel_rfl)) ?_
  intro W base args ds gs before hval0 hW hcnd _
  have hval : ∀ (j : Nat) t v, Try.f8.params[j]? = some t → args[j]? = some v → Value.okWide Try.prog W .any base t v := hval0
  have hW' := hW
  obtain ⟨p, q, hA0, _⟩ := hW
  have hA : DataW.TrodAll enc Try.prog W 0 (fun _ => true) true Try.f8.params.toList args.toList ds p := hA0
  have hlen : ds.length = Try.f8.params.toList.length := trodAll_len hA
  rw [Try.params8] at hlen
  refine ((fnValueOf_calls hval hA).go W (St.start W)).mono ?_
  rintro e W' ⟨v, L', ⟨rfl, rfl⟩, rfl, hs⟩
  exact ⟨_, rfl, law_post kids full (by rw [Try.params8]; decide) hW' rfl (fun hg => by subst hg; match ds, hlen with | [_], _ => exact bool_res) (fun hg => by subst hg; match ds, hlen with | [_], _ => rfl) (fun hg => by subst hg; match ds, hlen with | [_], _ => rfl) hs.below⟩
theorem fnValueOf_over : Ytglmfcligilhjaa.Rows.fnValueOfRow.holds Try.pinned (OpenSpec.ofChange Ytglmfcligilhjaa.Rows.fnValueOfSpec) :=
  OpenClaim.holds_of_wide 8 Try.f8 rfl rfl rfl rfl rfl rfl rfl ⟨rfl, rfl, rfl, rfl, rfl⟩ rfl rfl rfl rfl rfl (by kernel_rfl) Try.func8 (by kernel_rfl)
    (of_decide_eq_true (by kernel_rfl)) (by unfold Func.isWrapper; first | (rw [if_pos (by decide +kernel)]; kernel_rfl) | (rw [if_neg (by decide +kernel)]; exact ⟨rfl, rfl⟩))
    (fun os started H enc _ => fnValueOf_lifted os started H enc)
end SG
namespace Go.Proofs.Ytglmfcligilhjaa
theorem fnValueOf_proved : Rows.FnValueOfSaid := SG.fnValueOf_over
end Go.Proofs.Ytglmfcligilhjaa
#print axioms Go.Proofs.Ytglmfcligilhjaa.fnValueOf_proved
