/- The law FnValidFormula holds for every input. -/
import Derived.Test.YtbdckppcljgpgaaD6
import Derived.Test.YtbdckppcljgpgaaD14
import Derived.Test.YtbdckppcljgpgaaD16
import Derived.Test.YtbdckppcljgpgaaRows
namespace SG
open Go Go.RowKit Go.Proofs Go.Proofs.Ytbdckppcljgpgaa Go.ChangeShapes Go.WideShapes Go.Deep
set_option linter.unusedVariables false
set_option linter.unusedSimpArgs false
set_option maxRecDepth 100000
theorem DrawValidFormula_spec (w0 : World) (L : List Asn) (A : Option Addr) (c : Nat) (bs : List Int) (hR : Rd w0 [] byteE A c bs) (hb : ∀ x ∈ bs, 0 ≤ x ∧ x ≤ 255) (hl : bs.length ≤ 1048576) (hc : bs.length ≤ c) :
    Tr Try.prog 20 #[.slice A bs.length c] w0 L (fun v L' => ∃ (D : Option Addr) (e : Nat) (fp : List Part), v = .agg #[.slice D fp.length e] ∧ 1 ≤ fp.length ∧ fp.length ≤ 13 ∧ L' = row partE D e fp :: L) := by
  have hC := Code0.take hR hb
  refine Tr.enter (args := [.slice A bs.length c]) Try.func20 Try.ntmps20 rfl rfl ?_
  refine GC.seq ?_
  refine GC.region ?_
  refine GL.alloc rfl ?_; intro g2
  refine GL.nil ?_
  refine GE.seq ?_
  refine GC.seq ?_
  refine GC.region ?_
  refine GL.val (by exact EvP.r (Ev.move rfl)) rfl rfl ?_
  refine GL.call rfl rfl (newReader_spec _ _ _ _ _ (by assumption) (by first | omega | (simp; done) | (simp; omega)) (by first | omega | (simp; done) | (simp; omega))) ?_
  rintro _ _ ⟨g4, rfl, rfl⟩
  refine GL.callP rfl rfl (by (repeat (first | exact Pick.head | apply Pick.tail)); fail_if_success (focus skip)) (someFormula_spec _ _ _ _ _ _ (by assumption) _ (by first | omega | (simp; done) | (simp; omega)) (by first | omega | (simp; done) | (simp; omega))) ?_
  rintro _ _ ⟨D5, e5, fp5, p5, rfl, fp5a, fp5b, p5a, p5b, rfl⟩
  refine GL.store_varN rfl rfl rfl (by (repeat (first | exact Pick.head | apply Pick.tail)); fail_if_success (focus skip)) (by rfl) (by rfl) (by rfl) ?_
  refine GL.nil ?_
  refine GE.seq ?_
  refine GC.ret ?_
  -- returns, path 
  refine GE.ret_cell (L' := row partE D5 e5 fp5 :: L) (.inl rfl) rfl rfl rfl (BlkRd.of_pick (by (repeat (first | exact Pick.head | apply Pick.tail)); fail_if_success (focus skip))) (by rfl) (by first | exact Sub.refl | exact Sub.nil | (repeat (first | exact Sub.refl | exact Sub.nil | refine Sub.cons (by (repeat (first | exact Pick.head | apply Pick.tail)); fail_if_success (focus skip)) ?_ | refine Sub.drop ?_))) ?_
  exact ⟨_, _, _, rfl, fp5a, fp5b, rfl⟩
theorem fit_zero {ps : List Part} (h : ValidP ps) : fitV ps (List.replicate 10 0) = true := fitV_iff.2 ⟨h, by simp, fun x hx => by rw [List.mem_replicate] at hx; rw [hx.2]; exact ⟨by decide, by decide⟩, fun k hk => by have := (mem_mayL.1 hk).1; simp; omega⟩
theorem FnValidFormula_spec (w0 : World) (L : List Asn) (A : Option Addr) (c : Nat) (bs : List Int) (hR : Rd w0 [] byteE A c bs) (hb : ∀ x ∈ bs, 0 ≤ x ∧ x ≤ 255) :
    Tr Try.prog 5 #[.slice A bs.length c] w0 L (fun v L' => v = .bool true ∧ L' = L) := by
  refine Tr.rd_cap (hR.imp Imp.nil) fun hc1 hc2 => ?_
  refine Tr.enter (args := [.slice A bs.length c]) Try.func5 Try.ntmps5 rfl rfl ?_
  refine GC.seq ?_
  refine GC.region ?_
  refine GL.val (by exact EvP.r (Ev.assign rfl)) rfl rfl ?_
  refine GL.nil ?_
  refine GE.seq ?_
  refine GC.seq ?_
  refine GC.seq ?_
  refine GC.region ?_
  refine GL.val (by exact EvP.r (Ev.move rfl)) rfl rfl ?_
  refine GL.val (by exact EvP.r (Ev.len rfl)) rfl rfl ?_
  refine GL.val (by exact EvP.r (Ev.gtr rfl rfl)) rfl rfl ?_
  refine GL.nil ?_
  refine GE.seq ?_
  first | refine GC.if_dec rfl (fun h1 => ?_) (fun h1 => ?_) | refine GC.if_ndec rfl (fun h1 => ?_) (fun h1 => ?_) | refine GC.if_not rfl (fun h1 => ?_) (fun h1 => ?_) | refine GC.if_bool rfl (fun h1 => ?_) (fun h1 => ?_)
  · -- T
    refine GC.seq ?_
    refine GC.region ?_
    refine GL.val (by exact EvP.r (Ev.assign rfl)) rfl rfl ?_
    refine GL.nil ?_
    refine GE.seq ?_
    refine GC.ret ?_
    refine GE.seq_ret ?_
    -- returns, path T
    refine GE.ret_tmp (L' := L) (.inl rfl) rfl rfl (by first | exact Sub.refl | exact Sub.nil | (repeat (first | exact Sub.refl | exact Sub.nil | refine Sub.cons (by (repeat (first | exact Pick.head | apply Pick.tail)); fail_if_success (focus skip)) ?_ | refine Sub.drop ?_))) ?_
    exact ⟨rfl, rfl⟩
  · -- F
    refine GC.skip ?_
    refine GE.seq ?_
    refine GC.seq ?_
    refine GC.region ?_
    refine GL.val (by exact EvP.r (Ev.move rfl)) rfl rfl ?_
    refine GL.call rfl rfl (DrawValidFormula_spec _ _ _ _ _ hR hb (by omega) hc1) ?_
    rintro _ _ ⟨D, e, fp, rfl, fp1, fp2, rfl⟩
    refine GL.alloc rfl ?_; intro g3
    refine GL.store_varN rfl rfl rfl (by (repeat (first | exact Pick.head | apply Pick.tail)); fail_if_success (focus skip)) (by rfl) (by rfl) (by rfl) ?_
    refine GL.nil ?_
    refine GE.seq ?_
    refine GC.seq ?_
    refine GC.region ?_
    refine GL.val (by exact (by first | exact Ev.load_blk_all rfl rfl (BlkRd.of_pick (by (repeat (first | exact Pick.head | apply Pick.tail)); fail_if_success (focus skip))) Imp.refl (by rfl) | exact Ev.load_blk_all rfl rfl (by assumption) (by first | exact Imp.refl | exact Imp.nil | ((repeat (first | exact Imp.refl | refine Imp.cons ?_)); fail_if_success (focus skip))) (by rfl))) rfl rfl ?_
    refine GL.callF rfl rfl (ValidFormula_spec _ _ _ _ _ (by first | assumption | exact Rd.of_pick (by (repeat (first | exact Pick.head | apply Pick.tail)); fail_if_success (focus skip)) | exact Rd.imp (by assumption) (by first | exact Imp.refl | exact Imp.nil | ((repeat (first | exact Imp.refl | refine Imp.cons ?_)); fail_if_success (focus skip))))) ?_
    refine GL.val (by exact EvP.r (Ev.assign rfl)) rfl rfl ?_
    refine GL.nil ?_
    refine GE.seq ?_
    refine GC.seq ?_
    refine GC.seq ?_
    refine GC.region ?_
    refine GL.val (by exact EvP.r (Ev.move rfl)) rfl rfl ?_
    refine GL.val (by exact (by first | exact Ev.load_blk_all rfl rfl (BlkRd.of_pick (by (repeat (first | exact Pick.head | apply Pick.tail)); fail_if_success (focus skip))) Imp.refl (by rfl) | exact Ev.load_blk_all rfl rfl (by assumption) (by first | exact Imp.refl | exact Imp.nil | ((repeat (first | exact Imp.refl | refine Imp.cons ?_)); fail_if_success (focus skip))) (by rfl))) rfl rfl ?_
    refine GL.callF rfl rfl (sValidFormula_spec _ _ _ _ _ (by first | assumption | exact Rd.of_pick (by (repeat (first | exact Pick.head | apply Pick.tail)); fail_if_success (focus skip)) | exact Rd.imp (by assumption) (by first | exact Imp.refl | exact Imp.nil | ((repeat (first | exact Imp.refl | refine Imp.cons ?_)); fail_if_success (focus skip)))) (by first | omega | (simp; done) | (simp; omega))) ?_
    refine GL.val (by exact EvP.r (Ev.neq_bool rfl rfl)) rfl rfl ?_
    refine GL.val (by exact EvP.r (Ev.move rfl)) rfl rfl ?_
    first | refine GL.gdec rfl rfl (fun h2 => ?_) (fun h2 => ?_) | refine GL.gndec rfl rfl (fun h2 => ?_) (fun h2 => ?_) | refine GL.gnot rfl rfl (fun h2 => ?_) (fun h2 => ?_) | refine GL.gbool rfl rfl (fun h2 => ?_) (fun h2 => ?_)
    · -- Ft
      refine GL.unwant rfl rfl rfl rfl ?_
      refine GL.unwant rfl rfl rfl rfl ?_
      refine GL.val (by exact EvP.r (Ev.pick_true rfl rfl)) rfl rfl ?_
      refine GL.nil ?_
      refine GE.seq ?_
      refine GC.cond_true rfl ?_
      refine GC.seq ?_
      refine GC.region ?_
      refine GL.val (by exact EvP.r (Ev.move rfl)) rfl rfl ?_
      refine GL.val (by exact (by first | exact Ev.load_blk_all rfl rfl (BlkRd.of_pick (by (repeat (first | exact Pick.head | apply Pick.tail)); fail_if_success (focus skip))) Imp.refl (by rfl) | exact Ev.load_blk_all rfl rfl (by assumption) (by first | exact Imp.refl | exact Imp.nil | ((repeat (first | exact Imp.refl | refine Imp.cons ?_)); fail_if_success (focus skip))) (by rfl))) rfl rfl ?_
      refine GL.callF rfl rfl (sValidFormula_spec _ _ _ _ _ (by first | assumption | exact Rd.of_pick (by (repeat (first | exact Pick.head | apply Pick.tail)); fail_if_success (focus skip)) | exact Rd.imp (by assumption) (by first | exact Imp.refl | exact Imp.nil | ((repeat (first | exact Imp.refl | refine Imp.cons ?_)); fail_if_success (focus skip)))) (by first | omega | (simp; done) | (simp; omega))) ?_
      refine GL.val (by exact EvP.r (Ev.eql_bool rfl rfl)) rfl rfl ?_
      refine GL.val (by exact EvP.r (Ev.assign rfl)) rfl rfl ?_
      refine GL.nil ?_
      refine GE.seq ?_
      refine GC.ret ?_
      refine GE.seq_ret ?_
      -- returns, path Ft
      refine GE.ret_tmp (L' := L) (.inl rfl) rfl rfl (by first | exact Sub.refl | exact Sub.nil | (repeat (first | exact Sub.refl | exact Sub.nil | refine Sub.cons (by (repeat (first | exact Pick.head | apply Pick.tail)); fail_if_success (focus skip)) ?_ | refine Sub.drop ?_))) ?_
      exact ⟨by simp, rfl⟩
    · -- Ff
      refine GL.want rfl rfl ?_
      refine GL.val (by exact EvP.r (Ev.move rfl)) rfl rfl ?_
      refine GL.want rfl rfl ?_
      refine GL.val (by exact EvP.r (Ev.not rfl)) rfl rfl ?_
      refine GL.val (by exact EvP.r (Ev.pick_false rfl rfl)) rfl rfl ?_
      refine GL.nil ?_
      refine GE.seq ?_
      first | refine GC.if_dec rfl (fun h3 => ?_) (fun h3 => ?_) | refine GC.if_ndec rfl (fun h3 => ?_) (fun h3 => ?_) | refine GC.if_not rfl (fun h3 => ?_) (fun h3 => ?_) | refine GC.if_bool rfl (fun h3 => ?_) (fun h3 => ?_)
      · -- FfT
        refine GC.seq ?_
        refine GC.region ?_
        refine GL.val (by exact EvP.r (Ev.move rfl)) rfl rfl ?_
        refine GL.val (by exact (by first | exact Ev.load_blk_all rfl rfl (BlkRd.of_pick (by (repeat (first | exact Pick.head | apply Pick.tail)); fail_if_success (focus skip))) Imp.refl (by rfl) | exact Ev.load_blk_all rfl rfl (by assumption) (by first | exact Imp.refl | exact Imp.nil | ((repeat (first | exact Imp.refl | refine Imp.cons ?_)); fail_if_success (focus skip))) (by rfl))) rfl rfl ?_
        refine GL.callF rfl rfl (sValidFormula_spec _ _ _ _ _ (by first | assumption | exact Rd.of_pick (by (repeat (first | exact Pick.head | apply Pick.tail)); fail_if_success (focus skip)) | exact Rd.imp (by assumption) (by first | exact Imp.refl | exact Imp.nil | ((repeat (first | exact Imp.refl | refine Imp.cons ?_)); fail_if_success (focus skip)))) (by first | omega | (simp; done) | (simp; omega))) ?_
        refine GL.val (by exact EvP.r (Ev.eql_bool rfl rfl)) rfl rfl ?_
        refine GL.val (by exact EvP.r (Ev.assign rfl)) rfl rfl ?_
        refine GL.nil ?_
        refine GE.seq ?_
        refine GC.ret ?_
        refine GE.seq_ret ?_
        -- returns, path FfT
        refine GE.ret_tmp (L' := L) (.inl rfl) rfl rfl (by first | exact Sub.refl | exact Sub.nil | (repeat (first | exact Sub.refl | exact Sub.nil | refine Sub.cons (by (repeat (first | exact Pick.head | apply Pick.tail)); fail_if_success (focus skip)) ?_ | refine Sub.drop ?_))) ?_
        exact ⟨by simp, rfl⟩
      · -- FfF
        have hv := validF_iff.1 h3
        have hfz := fit_zero hv
        have hov := validF_iff.2 (ordL_valid hv)
        refine GC.skip ?_
        refine GE.seq ?_
        refine GC.seq ?_
        refine GC.region_any #[false, true, true, false, false, false, false, false] mixed ?_
        refine GA.read 0 #[false, true, false, false, false, false, false, false] rfl (by exact (by first | exact Ev.load_blk_all rfl rfl (BlkRd.of_pick (by (repeat (first | exact Pick.head | apply Pick.tail)); fail_if_success (focus skip))) Imp.refl (by rfl) | exact Ev.load_blk_all rfl rfl (by assumption) (by first | exact Imp.refl | exact Imp.nil | ((repeat (first | exact Imp.refl | refine Imp.cons ?_)); fail_if_success (focus skip))) (by rfl))) rfl rfl (by kernel_rfl) rfl (by kernel_rfl) (by kernel_rfl) (fun _ _ _ h => h) ?_
        refine GA.branch (rs := [1]) (JOk.live (by exact (by first | exact Ev.load_blk_all rfl rfl (BlkRd.of_pick (by (repeat (first | exact Pick.head | apply Pick.tail)); fail_if_success (focus skip))) Imp.refl (by rfl) | exact Ev.load_blk_all rfl rfl (by assumption) (by first | exact Imp.refl | exact Imp.nil | ((repeat (first | exact Imp.refl | refine Imp.cons ?_)); fail_if_success (focus skip))) (by rfl))) JOk.nil) (by kernel_rfl) (by simp) ?_
        refine GAs.cons rfl ?_ ?_
        · -- FfF op 1
          refine GL.make (n := 10) rfl rfl rfl rfl (by decide) (by decide) rfl ?_; intro g28
          refine GL.nil ?_
          refine GE.any ?_
          refine GA.branch (rs := [2]) (JOk.live (by exact (by first | exact Ev.load_blk_all rfl rfl (BlkRd.of_pick (by (repeat (first | exact Pick.head | apply Pick.tail)); fail_if_success (focus skip))) Imp.refl (by rfl) | exact Ev.load_blk_all rfl rfl (by assumption) (by first | exact Imp.refl | exact Imp.nil | ((repeat (first | exact Imp.refl | refine Imp.cons ?_)); fail_if_success (focus skip))) (by rfl))) JOk.nil) (by kernel_rfl) (by simp) ?_
          refine GAs.cons rfl ?_ ?_
          · -- FfF op 2
            refine GL.callF rfl rfl ((by have := ValueOf_spec w0 (row intE (some ⟨g28, 0, none⟩) 10 (List.replicate 10 0) :: blk g3 31 [.slice D fp.length e] :: row partE D e fp :: L) D e fp (by first | assumption | exact Rd.of_pick (by (repeat (first | exact Pick.head | apply Pick.tail)); fail_if_success (focus skip)) | exact Rd.imp (by assumption) (by first | exact Imp.refl | exact Imp.nil | ((repeat (first | exact Imp.refl | refine Imp.cons ?_)); fail_if_success (focus skip)))) (some ⟨g28, 0, none⟩) 10 (List.replicate 10 0) (by first | assumption | exact Rd.of_pick (by (repeat (first | exact Pick.head | apply Pick.tail)); fail_if_success (focus skip)) | exact Rd.imp (by assumption) (by first | exact Imp.refl | exact Imp.nil | ((repeat (first | exact Imp.refl | refine Imp.cons ?_)); fail_if_success (focus skip)))) (by simp); rw [List.length_replicate] at this; exact this)) ?_
            refine GL.nil ?_
            refine GE.any ?_
            refine GA.take 3 #[true, true, true, false, false, false, false, false] rfl (by exact Ev.move rfl) rfl rfl (by kernel_rfl) rfl (by kernel_rfl) (by kernel_rfl) (fun _ _ _ h => h) ?_
            refine GA.take 4 #[true, true, true, true, false, true, false, false] rfl (by exact Ev.extract rfl rfl) rfl rfl (by kernel_rfl) rfl (by kernel_rfl) (by kernel_rfl) (fun _ _ _ h => h) ?_
            refine GA.take 5 #[true, true, true, true, true, false, true, false] rfl (by exact Ev.extract rfl rfl) rfl rfl (by kernel_rfl) rfl (by kernel_rfl) (by kernel_rfl) (fun _ _ _ h => h) ?_
            refine GA.take 6 #[true, true, true, true, true, true, false, false] rfl (by exact Ev.assign rfl) rfl rfl (by kernel_rfl) rfl (by kernel_rfl) (by kernel_rfl) (fun _ _ _ h => h) ?_
            refine GA.take 7 #[true, true, true, true, true, true, true, false] rfl (by exact Ev.assign rfl) rfl rfl (by kernel_rfl) rfl (by kernel_rfl) (by kernel_rfl) (fun _ _ _ h => h) ?_
            refine GA.done (JOk.dead (by kernel_rfl) JOk.nil) (by kernel_rfl) ?_
            refine GE.seq ?_
            refine GC.seq ?_
            refine GC.region ?_
            refine GL.val (by exact EvP.r (Ev.move rfl)) rfl rfl ?_
            refine GL.val (by exact EvP.r (Ev.move rfl)) rfl rfl ?_
            first | refine GL.gdec rfl rfl (fun h4 => ?_) (fun h4 => ?_) | refine GL.gndec rfl rfl (fun h4 => ?_) (fun h4 => ?_) | refine GL.gnot rfl rfl (fun h4 => ?_) (fun h4 => ?_) | refine GL.gbool rfl rfl (fun h4 => ?_) (fun h4 => ?_)
            · -- FfFt
              refine GL.want rfl rfl ?_
              refine GL.val (by exact (by first | exact Ev.load_blk_all rfl rfl (BlkRd.of_pick (by (repeat (first | exact Pick.head | apply Pick.tail)); fail_if_success (focus skip))) Imp.refl (by rfl) | exact Ev.load_blk_all rfl rfl (by assumption) (by first | exact Imp.refl | exact Imp.nil | ((repeat (first | exact Imp.refl | refine Imp.cons ?_)); fail_if_success (focus skip))) (by rfl))) rfl rfl ?_
              refine GL.want rfl rfl ?_
              refine GL.call rfl rfl (iOrderParts_spec _ _ _ _ _ (by first | assumption | exact Rd.of_pick (by (repeat (first | exact Pick.head | apply Pick.tail)); fail_if_success (focus skip)) | exact Rd.imp (by assumption) (by first | exact Imp.refl | exact Imp.nil | ((repeat (first | exact Imp.refl | refine Imp.cons ?_)); fail_if_success (focus skip))))) ?_
              rintro _ _ ⟨B35, d35, rfl, rfl⟩
              refine GL.want rfl rfl ?_
              refine GL.callF rfl rfl (ValidFormula_spec _ _ _ _ _ (by first | assumption | exact Rd.of_pick (by (repeat (first | exact Pick.head | apply Pick.tail)); fail_if_success (focus skip)) | exact Rd.imp (by assumption) (by first | exact Imp.refl | exact Imp.nil | ((repeat (first | exact Imp.refl | refine Imp.cons ?_)); fail_if_success (focus skip))))) ?_
              refine GL.val (by exact EvP.r (Ev.pick_true rfl rfl)) rfl rfl ?_
              refine GL.val (by exact EvP.r (Ev.assign rfl)) rfl rfl ?_
              refine GL.nil ?_
              refine GE.seq ?_
              refine GC.ret ?_
              -- returns, path FfFt
              refine GE.ret_tmp (L' := L) (.inl rfl) rfl rfl (by first | exact Sub.refl | exact Sub.nil | (repeat (first | exact Sub.refl | exact Sub.nil | refine Sub.cons (by (repeat (first | exact Pick.head | apply Pick.tail)); fail_if_success (focus skip)) ?_ | refine Sub.drop ?_))) ?_
              exact ⟨by rw [hov], rfl⟩
            · -- FfFf
              rw [hfz] at h4; cases h4
          exact GAs.nil
        exact GAs.nil
theorem fnValidFormula_calls {H : Type} {enc : TypeId × Value → H} {W : World} {base : Nat} {args : Array Value} {ds : List (DataW H)} {p : List MemPlace} (hval : ∀ (j : Nat) t v, Try.f5.params[j]? = some t → args[j]? = some v → Value.okWide Try.prog W .any base t v)
    (hA : DataW.TrodAll enc Try.prog W 0 (fun _ => true) true Try.f5.params.toList args.toList ds p) : Tr Try.prog 5 args W [] (fun v L' => v = .bool true ∧ L' = []) := by
  rw [Try.params5] at hA hval
  obtain ⟨v0, vs0, d0, ds0, p0, q0, hargs, rfl, rfl, h0, r0⟩ := trodAll_cons hA
  obtain ⟨rfl, rfl, rfl⟩ := trodAll_nil r0
  obtain rfl : args = #[v0] := by cases args; simp_all
  obtain ⟨A, c, bs, rfl, hR, hb⟩ := arg_sl (E := byteE) (st := 22) (by kernel_rfl) (opens_bytes W) (hval 0 _ v0 rfl rfl) h0
  exact FnValidFormula_spec W [] A c bs hR (fun x hx => wf_u8 (hb x hx))
theorem fnValidFormula_lifted (os : Os) (started : os.Started) (H : Type) (enc : TypeId × Value → H) :
    ReturnsInHanded {} Try.checked os 5 .any (Ytbdckppcljgpgaa.Rows.fnValidFormulaSpec.pre6 enc Try.prog Try.f5 Ytbdckppcljgpgaa.Rows.fnValidFormulaRow.domain false) (Ytbdckppcljgpgaa.Rows.fnValidFormulaSpec.post enc Try.prog Try.f5 false true false false) := by
  refine returnsInHanded_of_change (C := Try.checked) own started (by kernel_rfl) Try.func5
    (ChangeSpec.witness6 (enc := enc) (C := Try.checked) false ⟨#[], #[.slice none 0 0], []⟩ 8 (by kernel_rfl) (by kernel_rfl) (by kernel_rfl) (by kernel_rfl)) ?_
  intro W base args ds gs before hval0 hW hcnd _
  have hval : ∀ (j : Nat) t v, Try.f5.params[j]? = some t → args[j]? = some v → Value.okWide Try.prog W .any base t v := hval0
  have hW' := hW
  obtain ⟨p, q, hA0, _⟩ := hW
  have hA : DataW.TrodAll enc Try.prog W 0 (fun _ => true) true Try.f5.params.toList args.toList ds p := hA0
  have hlen : ds.length = Try.f5.params.toList.length := trodAll_len hA
  rw [Try.params5] at hlen
  refine ((fnValidFormula_calls hval hA).go W (St.start W)).mono ?_
  rintro e W' ⟨v, L', ⟨rfl, rfl⟩, rfl, hs⟩
  exact ⟨_, rfl, law_post kids full (by rw [Try.params5]; decide) hW' rfl (fun hg => by subst hg; match ds, hlen with | [_], _ => exact bool_res) (fun hg => by subst hg; match ds, hlen with | [_], _ => rfl) (fun hg => by subst hg; match ds, hlen with | [_], _ => rfl) hs.below⟩
theorem fnValidFormula_over : Ytbdckppcljgpgaa.Rows.fnValidFormulaRow.holds Try.pinned (OpenSpec.ofChange Ytbdckppcljgpgaa.Rows.fnValidFormulaSpec) :=
  OpenClaim.holds_of_wide 5 Try.f5 rfl rfl rfl rfl rfl rfl rfl ⟨rfl, rfl, rfl, rfl, rfl⟩ rfl rfl rfl rfl rfl (by kernel_rfl) Try.func5 (by kernel_rfl)
    (of_decide_eq_true (by kernel_rfl)) (by unfold Func.isWrapper; first | (rw [if_pos (by decide +kernel)]; kernel_rfl) | (rw [if_neg (by decide +kernel)]; exact ⟨rfl, rfl⟩))
    (fun os started H enc _ => fnValidFormula_lifted os started H enc)
end SG
namespace Go.Proofs.Ytbdckppcljgpgaa
theorem fnValidFormula_proved : Rows.FnValidFormulaSaid := SG.fnValidFormula_over
end Go.Proofs.Ytbdckppcljgpgaa
#print axioms Go.Proofs.Ytbdckppcljgpgaa.fnValidFormula_proved
