/- The law FnMayRead holds for every input. -/
import Derived.Test.YtbdckppcljgpgaaD6
import Derived.Test.YtbdckppcljgpgaaD13
import Derived.Test.YtbdckppcljgpgaaD15
import Derived.Test.YtbdckppcljgpgaaRows
namespace SG
open Go Go.RowKit Go.Proofs Go.Proofs.Ytbdckppcljgpgaa Go.ChangeShapes Go.WideShapes Go.Deep
set_option linter.unusedVariables false
set_option linter.unusedSimpArgs false
set_option maxRecDepth 100000
theorem DrawMayRead_spec (w0 : World) (L : List Asn) (A : Option Addr) (c : Nat) (bs : List Int) (hR : Rd w0 [] byteE A c bs) (hb : ∀ x ∈ bs, 0 ≤ x ∧ x ≤ 255) (hl : bs.length ≤ 1048576) (hc : bs.length ≤ c) :
    Tr Try.prog 12 #[.slice A bs.length c] w0 L (fun v L' => ∃ (D : Option Addr) (e : Nat) (fp : List Part), v = .agg #[.slice D fp.length e] ∧ 1 ≤ fp.length ∧ fp.length ≤ 13 ∧ L' = row partE D e fp :: L) := by
  have hC := Code0.take hR hb
  refine Tr.enter (args := [.slice A bs.length c]) Try.func12 Try.ntmps12 rfl rfl ?_
  refine GC.seq ?_
  refine GC.region ?_
  refine GL.alloc rfl ?_; intro g2
  refine GL.nil ?_
  refine GE.seq ?_
  refine GC.seq ?_
  refine GC.region ?_
  refine GL.val (by exact EvP.r (Ev.move rfl)) rfl rfl ?_
  refine GL.call rfl rfl (newReader_spec _ _ _ _ _ (by assumption) (by first | omega | (simp; done) | (simp; omega)) (by first | omega | (simp; done) | (simp; omega))) ?_
  rintro _ _ ⟨g4, rfl, rfl⟩
  refine GL.callP rfl rfl (by (repeat (first | exact Pick.head | apply Pick.tail)); fail_if_success (focus skip)) (someFormula_spec _ _ _ _ _ _ (by assumption) _ (by first | omega | (simp; done) | (simp; omega)) (by first | omega | (simp; done) | (simp; omega))) ?_
  rintro _ _ ⟨D5, e5, fp5, p5, rfl, fp5a, fp5b, p5a, p5b, rfl⟩
  refine GL.store_varN rfl rfl rfl (by (repeat (first | exact Pick.head | apply Pick.tail)); fail_if_success (focus skip)) (by rfl) (by rfl) (by rfl) ?_
  refine GL.nil ?_
  refine GE.seq ?_
  refine GC.ret ?_
  -- returns, path 
  refine GE.ret_cell (L' := row partE D5 e5 fp5 :: L) (.inl rfl) rfl rfl rfl (BlkRd.of_pick (by (repeat (first | exact Pick.head | apply Pick.tail)); fail_if_success (focus skip))) (by rfl) (by first | exact Sub.refl | exact Sub.nil | (repeat (first | exact Sub.refl | exact Sub.nil | refine Sub.cons (by (repeat (first | exact Pick.head | apply Pick.tail)); fail_if_success (focus skip)) ?_ | refine Sub.drop ?_))) ?_
  exact ⟨_, _, _, rfl, fp5a, fp5b, rfl⟩
def samesU (n : Nat) : List Int := (List.range n).map (fun (k : Nat) => (k : Int))
theorem samesU_succ (n : Nat) : samesU n ++ [(n : Int)] = samesU (n + 1) := by simp [samesU, List.range_succ]
theorem FnMayRead_spec (w0 : World) (L : List Asn) (A : Option Addr) (c : Nat) (bs : List Int) (hR : Rd w0 [] byteE A c bs) (hb : ∀ x ∈ bs, 0 ≤ x ∧ x ≤ 255) :
    Tr Try.prog 4 #[.slice A bs.length c] w0 L (fun v L' => v = .bool true ∧ L' = L) := by
  refine Tr.rd_cap (hR.imp Imp.nil) fun hc1 hc2 => ?_
  refine Tr.enter (args := [.slice A bs.length c]) Try.func4 Try.ntmps4 rfl rfl ?_
  refine GC.seq ?_
  refine GC.region ?_
  refine GL.val (by exact EvP.r (Ev.assign rfl)) rfl rfl ?_
  refine GL.nil ?_
  refine GE.seq ?_
  refine GC.seq ?_
  refine GC.seq ?_
  refine GC.region ?_
  refine GL.val (by exact EvP.r (Ev.move rfl)) rfl rfl ?_
  refine GL.val (by exact EvP.r (Ev.len rfl)) rfl rfl ?_
  refine GL.val (by exact EvP.r (Ev.gtr rfl rfl)) rfl rfl ?_
  refine GL.nil ?_
  refine GE.seq ?_
  first | refine GC.if_dec rfl (fun h1 => ?_) (fun h1 => ?_) | refine GC.if_ndec rfl (fun h1 => ?_) (fun h1 => ?_) | refine GC.if_not rfl (fun h1 => ?_) (fun h1 => ?_) | refine GC.if_bool rfl (fun h1 => ?_) (fun h1 => ?_)
  · -- T
    refine GC.seq ?_
    refine GC.region ?_
    refine GL.val (by exact EvP.r (Ev.assign rfl)) rfl rfl ?_
    refine GL.nil ?_
    refine GE.seq ?_
    refine GC.ret ?_
    refine GE.seq_ret ?_
    -- returns, path T
    refine GE.ret_tmp (L' := L) (.inl rfl) rfl rfl (by first | exact Sub.refl | exact Sub.nil | (repeat (first | exact Sub.refl | exact Sub.nil | refine Sub.cons (by (repeat (first | exact Pick.head | apply Pick.tail)); fail_if_success (focus skip)) ?_ | refine Sub.drop ?_))) ?_
    exact ⟨rfl, rfl⟩
  · -- F
    refine GC.skip ?_
    refine GE.seq ?_
    refine GC.seq ?_
    refine GC.region ?_
    refine GL.val (by exact EvP.r (Ev.move rfl)) rfl rfl ?_
    refine GL.call rfl rfl (DrawMayRead_spec _ _ _ _ _ hR hb (by omega) hc1) ?_
    rintro _ _ ⟨D, e, fp, rfl, fp1, fp2, rfl⟩
    have hml := mayV_length fp
    have hasc := asc_mayV fp
    refine GL.alloc rfl ?_; intro g3
    refine GL.store_varN rfl rfl rfl (by (repeat (first | exact Pick.head | apply Pick.tail)); fail_if_success (focus skip)) (by rfl) (by rfl) (by rfl) ?_
    refine GL.nil ?_
    refine GE.seq ?_
    refine GC.seq ?_
    refine GC.region ?_
    refine GL.val (by exact (by first | exact Ev.load_blk_all rfl rfl (BlkRd.of_pick (by (repeat (first | exact Pick.head | apply Pick.tail)); fail_if_success (focus skip))) Imp.refl (by rfl) | exact Ev.load_blk_all rfl rfl (by assumption) (by first | exact Imp.refl | exact Imp.nil | ((repeat (first | exact Imp.refl | refine Imp.cons ?_)); fail_if_success (focus skip))) (by rfl))) rfl rfl ?_
    refine GL.call rfl rfl (iMayRead_spec _ _ _ _ _ (by first | assumption | exact Rd.of_pick (by (repeat (first | exact Pick.head | apply Pick.tail)); fail_if_success (focus skip)) | exact Rd.imp (by assumption) (by first | exact Imp.refl | exact Imp.nil | ((repeat (first | exact Imp.refl | refine Imp.cons ?_)); fail_if_success (focus skip))))) ?_
    rintro _ _ ⟨B13, d13, rfl, rfl⟩
    refine GL.val (by exact EvP.r (Ev.assign rfl)) rfl rfl ?_
    refine GL.nil ?_
    refine GE.seq ?_
    refine GC.seq ?_
    refine GC.seq ?_
    refine GC.region ?_
    refine GL.val (by exact EvP.r (Ev.move rfl)) rfl rfl ?_
    refine GL.val (by exact (by first | exact Ev.load_blk_all rfl rfl (BlkRd.of_pick (by (repeat (first | exact Pick.head | apply Pick.tail)); fail_if_success (focus skip))) Imp.refl (by rfl) | exact Ev.load_blk_all rfl rfl (by assumption) (by first | exact Imp.refl | exact Imp.nil | ((repeat (first | exact Imp.refl | refine Imp.cons ?_)); fail_if_success (focus skip))) (by rfl))) rfl rfl ?_
    refine GL.call rfl rfl (sMayRead_spec _ _ _ _ _ (by first | assumption | exact Rd.of_pick (by (repeat (first | exact Pick.head | apply Pick.tail)); fail_if_success (focus skip)) | exact Rd.imp (by assumption) (by first | exact Imp.refl | exact Imp.nil | ((repeat (first | exact Imp.refl | refine Imp.cons ?_)); fail_if_success (focus skip)))) (by first | omega | (simp; done) | (simp; omega))) ?_
    rintro _ _ ⟨B16, d16, rfl, rfl⟩
    refine GL.callF rfl rfl (equalInts_spec _ _ _ _ _ (by first | assumption | exact Rd.of_pick (by (repeat (first | exact Pick.head | apply Pick.tail)); fail_if_success (focus skip)) | exact Rd.imp (by assumption) (by first | exact Imp.refl | exact Imp.nil | ((repeat (first | exact Imp.refl | refine Imp.cons ?_)); fail_if_success (focus skip)))) _ _ _ (by first | assumption | exact Rd.of_pick (by (repeat (first | exact Pick.head | apply Pick.tail)); fail_if_success (focus skip)) | exact Rd.imp (by assumption) (by first | exact Imp.refl | exact Imp.nil | ((repeat (first | exact Imp.refl | refine Imp.cons ?_)); fail_if_success (focus skip)))) (by first | omega | (simp; done) | (simp; omega))) ?_
    refine GL.val (by exact EvP.r (Ev.not rfl)) rfl rfl ?_
    refine GL.val (by exact EvP.r (Ev.move rfl)) rfl rfl ?_
    first | refine GL.gdec rfl rfl (fun h2 => ?_) (fun h2 => ?_) | refine GL.gndec rfl rfl (fun h2 => ?_) (fun h2 => ?_) | refine GL.gnot rfl rfl (fun h2 => ?_) (fun h2 => ?_) | refine GL.gbool rfl rfl (fun h2 => ?_) (fun h2 => ?_)
    · -- Ft
      refine GL.unwant rfl rfl rfl rfl ?_
      refine GL.unwant rfl rfl rfl rfl ?_
      refine GL.unwant rfl rfl rfl rfl ?_
      refine GL.val (by exact EvP.r (Ev.pick_true rfl rfl)) rfl rfl ?_
      refine GL.nil ?_
      refine GE.seq ?_
      refine GC.cond_true rfl ?_
      refine GC.seq ?_
      refine GC.region ?_
      refine GL.val (by exact EvP.r (Ev.move rfl)) rfl rfl ?_
      refine GL.val (by exact (by first | exact Ev.load_blk_all rfl rfl (BlkRd.of_pick (by (repeat (first | exact Pick.head | apply Pick.tail)); fail_if_success (focus skip))) Imp.refl (by rfl) | exact Ev.load_blk_all rfl rfl (by assumption) (by first | exact Imp.refl | exact Imp.nil | ((repeat (first | exact Imp.refl | refine Imp.cons ?_)); fail_if_success (focus skip))) (by rfl))) rfl rfl ?_
      refine GL.call rfl rfl (sMayRead_spec _ _ _ _ _ (by first | assumption | exact Rd.of_pick (by (repeat (first | exact Pick.head | apply Pick.tail)); fail_if_success (focus skip)) | exact Rd.imp (by assumption) (by first | exact Imp.refl | exact Imp.nil | ((repeat (first | exact Imp.refl | refine Imp.cons ?_)); fail_if_success (focus skip)))) (by first | omega | (simp; done) | (simp; omega))) ?_
      rintro _ _ ⟨B26, d26, rfl, rfl⟩
      refine GL.callF rfl rfl (equalInts_spec _ _ _ _ _ (by first | assumption | exact Rd.of_pick (by (repeat (first | exact Pick.head | apply Pick.tail)); fail_if_success (focus skip)) | exact Rd.imp (by assumption) (by first | exact Imp.refl | exact Imp.nil | ((repeat (first | exact Imp.refl | refine Imp.cons ?_)); fail_if_success (focus skip)))) _ _ _ (by first | assumption | exact Rd.of_pick (by (repeat (first | exact Pick.head | apply Pick.tail)); fail_if_success (focus skip)) | exact Rd.imp (by assumption) (by first | exact Imp.refl | exact Imp.nil | ((repeat (first | exact Imp.refl | refine Imp.cons ?_)); fail_if_success (focus skip)))) (by first | omega | (simp; done) | (simp; omega))) ?_
      refine GL.val (by exact EvP.r (Ev.assign rfl)) rfl rfl ?_
      refine GL.nil ?_
      refine GE.seq ?_
      refine GC.ret ?_
      refine GE.seq_ret ?_
      -- returns, path Ft
      refine GE.ret_tmp (L' := L) (.inl rfl) rfl rfl (by first | exact Sub.refl | exact Sub.nil | (repeat (first | exact Sub.refl | exact Sub.nil | refine Sub.cons (by (repeat (first | exact Pick.head | apply Pick.tail)); fail_if_success (focus skip)) ?_ | refine Sub.drop ?_))) ?_
      exact ⟨by simp, rfl⟩
    · -- Ff
      refine GL.want rfl rfl ?_
      refine GL.val (by exact (by first | exact Ev.load_blk_all rfl rfl (BlkRd.of_pick (by (repeat (first | exact Pick.head | apply Pick.tail)); fail_if_success (focus skip))) Imp.refl (by rfl) | exact Ev.load_blk_all rfl rfl (by assumption) (by first | exact Imp.refl | exact Imp.nil | ((repeat (first | exact Imp.refl | refine Imp.cons ?_)); fail_if_success (focus skip))) (by rfl))) rfl rfl ?_
      refine GL.want rfl rfl ?_
      refine GL.callF rfl rfl (ValidFormula_spec _ _ _ _ _ (by first | assumption | exact Rd.of_pick (by (repeat (first | exact Pick.head | apply Pick.tail)); fail_if_success (focus skip)) | exact Rd.imp (by assumption) (by first | exact Imp.refl | exact Imp.nil | ((repeat (first | exact Imp.refl | refine Imp.cons ?_)); fail_if_success (focus skip))))) ?_
      refine GL.want rfl rfl ?_
      refine GL.val (by exact EvP.r (Ev.not rfl)) rfl rfl ?_
      refine GL.val (by exact EvP.r (Ev.pick_false rfl rfl)) rfl rfl ?_
      refine GL.nil ?_
      refine GE.seq ?_
      first | refine GC.if_dec rfl (fun h3 => ?_) (fun h3 => ?_) | refine GC.if_ndec rfl (fun h3 => ?_) (fun h3 => ?_) | refine GC.if_not rfl (fun h3 => ?_) (fun h3 => ?_) | refine GC.if_bool rfl (fun h3 => ?_) (fun h3 => ?_)
      · -- FfT
        refine GC.seq ?_
        refine GC.region ?_
        refine GL.val (by exact EvP.r (Ev.move rfl)) rfl rfl ?_
        refine GL.val (by exact (by first | exact Ev.load_blk_all rfl rfl (BlkRd.of_pick (by (repeat (first | exact Pick.head | apply Pick.tail)); fail_if_success (focus skip))) Imp.refl (by rfl) | exact Ev.load_blk_all rfl rfl (by assumption) (by first | exact Imp.refl | exact Imp.nil | ((repeat (first | exact Imp.refl | refine Imp.cons ?_)); fail_if_success (focus skip))) (by rfl))) rfl rfl ?_
        refine GL.call rfl rfl (sMayRead_spec _ _ _ _ _ (by first | assumption | exact Rd.of_pick (by (repeat (first | exact Pick.head | apply Pick.tail)); fail_if_success (focus skip)) | exact Rd.imp (by assumption) (by first | exact Imp.refl | exact Imp.nil | ((repeat (first | exact Imp.refl | refine Imp.cons ?_)); fail_if_success (focus skip)))) (by first | omega | (simp; done) | (simp; omega))) ?_
        rintro _ _ ⟨B26, d26, rfl, rfl⟩
        refine GL.callF rfl rfl (equalInts_spec _ _ _ _ _ (by first | assumption | exact Rd.of_pick (by (repeat (first | exact Pick.head | apply Pick.tail)); fail_if_success (focus skip)) | exact Rd.imp (by assumption) (by first | exact Imp.refl | exact Imp.nil | ((repeat (first | exact Imp.refl | refine Imp.cons ?_)); fail_if_success (focus skip)))) _ _ _ (by first | assumption | exact Rd.of_pick (by (repeat (first | exact Pick.head | apply Pick.tail)); fail_if_success (focus skip)) | exact Rd.imp (by assumption) (by first | exact Imp.refl | exact Imp.nil | ((repeat (first | exact Imp.refl | refine Imp.cons ?_)); fail_if_success (focus skip)))) (by first | omega | (simp; done) | (simp; omega))) ?_
        refine GL.val (by exact EvP.r (Ev.assign rfl)) rfl rfl ?_
        refine GL.nil ?_
        refine GE.seq ?_
        refine GC.ret ?_
        refine GE.seq_ret ?_
        -- returns, path FfT
        refine GE.ret_tmp (L' := L) (.inl rfl) rfl rfl (by first | exact Sub.refl | exact Sub.nil | (repeat (first | exact Sub.refl | exact Sub.nil | refine Sub.cons (by (repeat (first | exact Pick.head | apply Pick.tail)); fail_if_success (focus skip)) ?_ | refine Sub.drop ?_))) ?_
        exact ⟨by simp, rfl⟩
      · -- FfF
        refine GC.skip ?_
        refine GE.seq ?_
        refine GC.seq ?_
        refine GC.region ?_
        refine GL.buildSlice rfl (by first | exact bsInt0 | exact bsInt1 _ | exact bsInt2 _ _ | exact bsInt3 _ _ _ | exact bsInt4 _ _ _ _ | exact bsInt5 _ _ _ _ _ | exact bsInt6 _ _ _ _ _ _ | exact bsInt7 _ _ _ _ _ _ _ | exact bsInt8 _ _ _ _ _ _ _ _ | exact bsInt9 _ _ _ _ _ _ _ _ _ | exact bsInt10 _ _ _ _ _ _ _ _ _ _ | exact bsPart0 | exact bsPart1 ⟨_, _, _, _, _⟩ | exact bsNode1 ⟨_, _, _, _⟩ | exact bsPtr3 _ _ _) rfl (by decide) rfl ?_; intro g28
        refine GL.val (by exact EvP.r (Ev.assign rfl)) rfl rfl ?_
        refine GL.nil ?_
        refine GE.seq ?_
        refine GC.seq ?_
        refine GC.seq ?_
        refine GC.region ?_
        refine GL.val (by exact EvP.r (Ev.assign rfl)) rfl rfl ?_
        refine GL.nil ?_
        refine GE.seq ?_
        refine GC.block ?_
        -- loop 1: carried slots [5, 6]
        have hv := validF_iff.1 h3
        refine GC.loopK (α := Nat × Option Addr × Nat) (fun x => x.1 ≤ 10) (fun x => [(5, .slice x.2.1 (samesU x.1).length x.2.2), (6, .int .i64 x.1)]) [(3, _), (4, _)] (fun x => row intE x.2.1 x.2.2 (samesU x.1) :: row intE B13 d13 (mayV fp) :: blk g3 31 [.slice D fp.length e] :: row partE D e fp :: L) (fun x => 10 - x.1) (0, some ⟨g28, 0, none⟩, 0) (by repeat (first | exact Keeps.nil | refine Keeps.cons rfl ?_)) (by first | exact Sub.refl | exact Sub.nil | (repeat (first | exact Sub.refl | exact Sub.nil | refine Sub.cons (by (repeat (first | exact Pick.head | apply Pick.tail)); fail_if_success (focus skip)) ?_ | refine Sub.drop ?_))) (Nat.zero_le _) ?_
        rintro ⟨i, B, d⟩ hi
        dsimp only at hi ⊢
        have hsl : (samesU i).length = i := by simp [samesU]
        refine GC.seq ?_
        refine GC.seq ?_
        refine GC.region ?_
        refine GL.val (by exact EvP.r (Ev.move rfl)) rfl rfl ?_
        refine GL.val (by exact EvP.r (Ev.lss rfl rfl)) rfl rfl ?_
        refine GL.nil ?_
        refine GE.seq ?_
        first | refine GC.if_dec rfl (fun h4 => ?_) (fun h4 => ?_) | refine GC.if_ndec rfl (fun h4 => ?_) (fun h4 => ?_) | refine GC.if_not rfl (fun h4 => ?_) (fun h4 => ?_) | refine GC.if_bool rfl (fun h4 => ?_) (fun h4 => ?_)
        · -- FfFT
          refine GC.skip ?_
          refine GE.seq ?_
          refine GC.seq ?_
          refine GC.block ?_
          refine GC.region ?_
          refine GL.val (by exact EvP.r (Ev.move rfl)) rfl rfl ?_
          refine GL.val (by exact EvP.r (Ev.move rfl)) rfl rfl ?_
          refine GL.buildSlice rfl (by first | exact bsInt0 | exact bsInt1 _ | exact bsInt2 _ _ | exact bsInt3 _ _ _ | exact bsInt4 _ _ _ _ | exact bsInt5 _ _ _ _ _ | exact bsInt6 _ _ _ _ _ _ | exact bsInt7 _ _ _ _ _ _ _ | exact bsInt8 _ _ _ _ _ _ _ _ | exact bsInt9 _ _ _ _ _ _ _ _ _ | exact bsInt10 _ _ _ _ _ _ _ _ _ _ | exact bsPart0 | exact bsPart1 ⟨_, _, _, _, _⟩ | exact bsNode1 ⟨_, _, _, _⟩ | exact bsPtr3 _ _ _) rfl (by decide) rfl ?_; intro g35
          first | (refine GL.append rfl rfl (by (repeat (first | exact Pick.head | apply Pick.tail)); fail_if_success (focus skip)) (by assumption) (by first | exact Imp.refl | exact Imp.nil | ((repeat (first | exact Imp.refl | refine Imp.cons ?_)); fail_if_success (focus skip))) (by first | rfl | (simp; done) | (simp; omega)) (by first | rfl | (simp; done) | (simp; omega)) (by first | omega | (simp; omega)) (by first | omega | (simp; omega)) rfl ?_; intro A36 c36) | (refine GL.append rfl rfl (by (repeat (first | exact Pick.head | apply Pick.tail)); fail_if_success (focus skip)) (Rd.of_pick (by (repeat (first | exact Pick.head | apply Pick.tail)); fail_if_success (focus skip))) Imp.refl (by first | rfl | (simp; done) | (simp; omega)) (by first | rfl | (simp; done) | (simp; omega)) (by first | omega | (simp; omega)) (by first | omega | (simp; omega)) rfl ?_; intro A36 c36)
          refine GL.val (by exact EvP.r (Ev.assign rfl)) rfl rfl ?_
          refine GL.nil ?_
          refine GE.block ?_
          refine GE.seq ?_
          refine GC.region ?_
          refine GL.val (by exact EvP.r (Ev.move rfl)) rfl rfl ?_
          refine GL.val (by exact EvP.r (Ev.add rfl rfl (by omega))) rfl rfl ?_
          refine GL.val (by exact EvP.r (Ev.assign rfl)) rfl rfl ?_
          refine GL.nil ?_
          -- round of loop 1, path FfFT
          rw [samesU_succ]
          refine GE.round (i + 1, _, _) (by dsimp only; omega) (by dsimp only; omega) (by repeat (first | exact Keeps.nil | refine Keeps.cons rfl ?_)) (by first | exact Sub.refl | exact Sub.nil | (repeat (first | exact Sub.refl | exact Sub.nil | refine Sub.cons (by (repeat (first | exact Pick.head | apply Pick.tail)); fail_if_success (focus skip)) ?_ | refine Sub.drop ?_)))
        · -- FfFF
          have hrl := renL_length (ps := fp) (to := samesU 10)
          have hie : i = 10 := by omega
          subst hie
          refine GC.exit ?_
          refine GE.seq_exit ?_
          refine GE.loop_exit ?_
          refine GE.block_exit ?_
          refine GE.seq ?_
          refine GC.seq ?_
          refine GC.region_any #[false, true, false, false, false, true, false, true, false, false] mixed ?_
          refine GA.take 0 #[false, false, false, false, false, false, false, false, false, false] rfl (by exact Ev.move rfl) rfl rfl (by kernel_rfl) rfl (by kernel_rfl) (by kernel_rfl) (fun _ _ _ h => h) ?_
          refine GA.branch (rs := [1]) JOk.nil (by kernel_rfl) (by simp) ?_
          refine GAs.cons rfl ?_ ?_
          · -- FfFF op 1
            refine GL.callF rfl rfl (ascends_spec _ _ _ _ _ (by first | assumption | exact Rd.of_pick (by (repeat (first | exact Pick.head | apply Pick.tail)); fail_if_success (focus skip)) | exact Rd.imp (by assumption) (by first | exact Imp.refl | exact Imp.nil | ((repeat (first | exact Imp.refl | refine Imp.cons ?_)); fail_if_success (focus skip)))) (by first | omega | (simp; done) | (simp; omega)) (by first | assumption | exact asc_mayL _)) ?_
            refine GL.nil ?_
            refine GE.any ?_
            refine GA.take 2 #[true, true, false, false, false, false, false, false, false, false] rfl (by exact Ev.move rfl) rfl rfl (by kernel_rfl) rfl (by kernel_rfl) (by kernel_rfl) (fun _ _ _ h => h) ?_
            first | refine GA.split_dec (d := 39) rfl (fun h5 => ?_) (fun h5 => ?_) | refine GA.split_ndec (d := 39) rfl (fun h5 => ?_) (fun h5 => ?_) | refine GA.split (d := 39) rfl (fun h5 => ?_) (fun h5 => ?_)
            · -- FfFFt
              refine GA.read_want 3 #[true, true, true, false, true, false, true, false, false, false] rfl rfl rfl (by exact (by first | exact Ev.load_blk_all rfl rfl (BlkRd.of_pick (by (repeat (first | exact Pick.head | apply Pick.tail)); fail_if_success (focus skip))) Imp.refl (by rfl) | exact Ev.load_blk_all rfl rfl (by assumption) (by first | exact Imp.refl | exact Imp.nil | ((repeat (first | exact Imp.refl | refine Imp.cons ?_)); fail_if_success (focus skip))) (by rfl))) rfl (by kernel_rfl) rfl (by kernel_rfl) (by kernel_rfl) (fun _ _ _ h => h) ?_
              refine GA.take_want 4 #[true, true, true, true, false, false, true, false, false, false] rfl rfl rfl (by exact Ev.move rfl) rfl (by kernel_rfl) rfl (by kernel_rfl) (by kernel_rfl) (fun _ _ _ h => h) ?_
              refine GA.read_want 6 #[true, true, true, true, true, true, false, false, false, false] rfl rfl rfl (by exact (by first | exact Ev.load_blk_all rfl rfl (BlkRd.of_pick (by (repeat (first | exact Pick.head | apply Pick.tail)); fail_if_success (focus skip))) Imp.refl (by rfl) | exact Ev.load_blk_all rfl rfl (by assumption) (by first | exact Imp.refl | exact Imp.nil | ((repeat (first | exact Imp.refl | refine Imp.cons ?_)); fail_if_success (focus skip))) (by rfl))) rfl (by kernel_rfl) rfl (by kernel_rfl) (by kernel_rfl) (fun _ _ _ h => h) ?_
              refine GA.branch (rs := [5]) (JOk.live (by exact (by first | exact Ev.load_blk_all rfl rfl (BlkRd.of_pick (by (repeat (first | exact Pick.head | apply Pick.tail)); fail_if_success (focus skip))) Imp.refl (by rfl) | exact Ev.load_blk_all rfl rfl (by assumption) (by first | exact Imp.refl | exact Imp.nil | ((repeat (first | exact Imp.refl | refine Imp.cons ?_)); fail_if_success (focus skip))) (by rfl))) (JOk.live (by exact (by first | exact Ev.load_blk_all rfl rfl (BlkRd.of_pick (by (repeat (first | exact Pick.head | apply Pick.tail)); fail_if_success (focus skip))) Imp.refl (by rfl) | exact Ev.load_blk_all rfl rfl (by assumption) (by first | exact Imp.refl | exact Imp.nil | ((repeat (first | exact Imp.refl | refine Imp.cons ?_)); fail_if_success (focus skip))) (by rfl))) JOk.nil)) (by kernel_rfl) (by simp) ?_
              refine GAs.cons rfl ?_ ?_
              · -- FfFFt op 5
                refine GL.want rfl rfl ?_
                refine GL.call rfl rfl (iRenameReads_spec _ _ _ _ _ (by first | assumption | exact Rd.of_pick (by (repeat (first | exact Pick.head | apply Pick.tail)); fail_if_success (focus skip)) | exact Rd.imp (by assumption) (by first | exact Imp.refl | exact Imp.nil | ((repeat (first | exact Imp.refl | refine Imp.cons ?_)); fail_if_success (focus skip)))) _ _ _ (by first | assumption | exact Rd.of_pick (by (repeat (first | exact Pick.head | apply Pick.tail)); fail_if_success (focus skip)) | exact Rd.imp (by assumption) (by first | exact Imp.refl | exact Imp.nil | ((repeat (first | exact Imp.refl | refine Imp.cons ?_)); fail_if_success (focus skip)))) (by first | omega | (simp; done) | (simp; omega))) ?_
                rintro _ _ ⟨B42, d42, rfl, rfl⟩
                refine GL.nil ?_
                refine GE.any ?_
                refine GA.branch (rs := [7]) (JOk.live (by exact (by first | exact Ev.load_blk_all rfl rfl (BlkRd.of_pick (by (repeat (first | exact Pick.head | apply Pick.tail)); fail_if_success (focus skip))) Imp.refl (by rfl) | exact Ev.load_blk_all rfl rfl (by assumption) (by first | exact Imp.refl | exact Imp.nil | ((repeat (first | exact Imp.refl | refine Imp.cons ?_)); fail_if_success (focus skip))) (by rfl))) (JOk.dead (by kernel_rfl) JOk.nil)) (by kernel_rfl) (by simp) ?_
                refine GAs.cons rfl ?_ ?_
                · -- FfFFt op 7
                  refine GL.want rfl rfl ?_
                  refine GL.callF rfl rfl (equalFormula_spec _ _ _ _ _ (by first | assumption | exact Rd.of_pick (by (repeat (first | exact Pick.head | apply Pick.tail)); fail_if_success (focus skip)) | exact Rd.imp (by assumption) (by first | exact Imp.refl | exact Imp.nil | ((repeat (first | exact Imp.refl | refine Imp.cons ?_)); fail_if_success (focus skip)))) _ _ _ (by first | assumption | exact Rd.of_pick (by (repeat (first | exact Pick.head | apply Pick.tail)); fail_if_success (focus skip)) | exact Rd.imp (by assumption) (by first | exact Imp.refl | exact Imp.nil | ((repeat (first | exact Imp.refl | refine Imp.cons ?_)); fail_if_success (focus skip)))) (by first | omega | (simp; done) | (simp; omega))) ?_
                  refine GL.nil ?_
                  refine GE.any ?_
                  refine GA.take 8 #[true, true, true, true, true, true, true, true, false, false] rfl (by exact Ev.pick_true rfl rfl) rfl rfl (by kernel_rfl) rfl (by kernel_rfl) (by kernel_rfl) (fun _ _ _ h => h) ?_
                  refine GA.take 9 #[true, true, true, true, true, true, true, true, true, false] rfl (by exact Ev.assign rfl) rfl rfl (by kernel_rfl) rfl (by kernel_rfl) (by kernel_rfl) (fun _ _ _ h => h) ?_
                  refine GA.done (JOk.dead (by kernel_rfl) (JOk.dead (by kernel_rfl) JOk.nil)) (by kernel_rfl) ?_
                  refine GE.seq ?_
                  refine GC.ret ?_
                  -- returns, path FfFFt
                  refine GE.ret_tmp (L' := L) (.inl rfl) rfl rfl (by first | exact Sub.refl | exact Sub.nil | (repeat (first | exact Sub.refl | exact Sub.nil | refine Sub.cons (by (repeat (first | exact Pick.head | apply Pick.tail)); fail_if_success (focus skip)) ?_ | refine Sub.drop ?_))) ?_
                  exact ⟨by rw [show samesU 10 = sames from rfl, renL_same hv]; simp, rfl⟩
                exact GAs.nil
              exact GAs.nil
            · -- FfFFf
              cases h5
          exact GAs.nil
theorem fnMayRead_calls {H : Type} {enc : TypeId × Value → H} {W : World} {base : Nat} {args : Array Value} {ds : List (DataW H)} {p : List MemPlace} (hval : ∀ (j : Nat) t v, Try.f4.params[j]? = some t → args[j]? = some v → Value.okWide Try.prog W .any base t v)
    (hA : DataW.TrodAll enc Try.prog W 0 (fun _ => true) true Try.f4.params.toList args.toList ds p) : Tr Try.prog 4 args W [] (fun v L' => v = .bool true ∧ L' = []) := by
  rw [Try.params4] at hA hval
  obtain ⟨v0, vs0, d0, ds0, p0, q0, hargs, rfl, rfl, h0, r0⟩ := trodAll_cons hA
  obtain ⟨rfl, rfl, rfl⟩ := trodAll_nil r0
  obtain rfl : args = #[v0] := by cases args; simp_all
  obtain ⟨A, c, bs, rfl, hR, hb⟩ := arg_sl (E := byteE) (st := 22) (by kernel_rfl) (opens_bytes W) (hval 0 _ v0 rfl rfl) h0
  exact FnMayRead_spec W [] A c bs hR (fun x hx => wf_u8 (hb x hx))
theorem fnMayRead_lifted (os : Os) (started : os.Started) (H : Type) (enc : TypeId × Value → H) :
    ReturnsInHanded {} Try.checked os 4 .any (Ytbdckppcljgpgaa.Rows.fnMayReadSpec.pre6 enc Try.prog Try.f4 Ytbdckppcljgpgaa.Rows.fnMayReadRow.domain false) (Ytbdckppcljgpgaa.Rows.fnMayReadSpec.post enc Try.prog Try.f4 false true false false) := by
  refine returnsInHanded_of_change (C := Try.checked) own started (by kernel_rfl) Try.func4
    (ChangeSpec.witness6 (enc := enc) (C := Try.checked) false ⟨#[], #[.slice none 0 0], []⟩ 8 (by kernel_rfl) (by kernel_rfl) (by kernel_rfl) (by kernel_rfl)) ?_
  intro W base args ds gs before hval0 hW hcnd _
  have hval : ∀ (j : Nat) t v, Try.f4.params[j]? = some t → args[j]? = some v → Value.okWide Try.prog W .any base t v := hval0
  have hW' := hW
  obtain ⟨p, q, hA0, _⟩ := hW
  have hA : DataW.TrodAll enc Try.prog W 0 (fun _ => true) true Try.f4.params.toList args.toList ds p := hA0
  have hlen : ds.length = Try.f4.params.toList.length := trodAll_len hA
  rw [Try.params4] at hlen
  refine ((fnMayRead_calls hval hA).go W (St.start W)).mono ?_
  rintro e W' ⟨v, L', ⟨rfl, rfl⟩, rfl, hs⟩
  exact ⟨_, rfl, law_post kids full (by rw [Try.params4]; decide) hW' rfl (fun hg => by subst hg; match ds, hlen with | [_], _ => exact bool_res) (fun hg => by subst hg; match ds, hlen with | [_], _ => rfl) (fun hg => by subst hg; match ds, hlen with | [_], _ => rfl) hs.below⟩
theorem fnMayRead_over : Ytbdckppcljgpgaa.Rows.fnMayReadRow.holds Try.pinned (OpenSpec.ofChange Ytbdckppcljgpgaa.Rows.fnMayReadSpec) :=
  OpenClaim.holds_of_wide 4 Try.f4 rfl rfl rfl rfl rfl rfl rfl ⟨rfl, rfl, rfl, rfl, rfl⟩ rfl rfl rfl rfl rfl (by kernel_rfl) Try.func4 (by kernel_rfl)
    (of_decide_eq_true (by kernel_rfl)) (by unfold Func.isWrapper; first | (rw [if_pos (by decide +kernel)]; kernel_rfl) | (rw [if_neg (by decide +kernel)]; exact ⟨rfl, rfl⟩))
    (fun os started H enc _ => fnMayRead_lifted os started H enc)
end SG
namespace Go.Proofs.Ytbdckppcljgpgaa
theorem fnMayRead_proved : Rows.FnMayReadSaid := SG.fnMayRead_over
end Go.Proofs.Ytbdckppcljgpgaa
#print axioms Go.Proofs.Ytbdckppcljgpgaa.fnMayRead_proved
