/- The law FnExactValidGraph holds for every input. -/
import Derived.Test.YtbdckppcljgpgaaD3
import Derived.Test.YtbdckppcljgpgaaD4
import Derived.Test.YtbdckppcljgpgaaRows
namespace SG
open Go Go.RowKit Go.Proofs Go.Proofs.Ytbdckppcljgpgaa Go.ChangeShapes Go.WideShapes Go.Deep
set_option linter.unusedVariables false
set_option linter.unusedSimpArgs false
set_option maxRecDepth 100000
theorem SizeG.gr {ms ns : List NdM} (h : SizeG ms) (e : gr ns = gr ms) : SizeG ns := by
  have hl : ns.length = ms.length := by have := congrArg List.length e; simpa using this
  refine ⟨by have := h.1; omega, fun i hi => ?_⟩
  have h1 := get_of_eq e (i := i) (by simpa using hi) (by simp; omega)
  rw [gr_get, gr_get] at h1
  have h2 := congrArg Nd.parts h1
  simp only [NdM.nd] at h2
  rw [h2]; exact h.2 i (by omega)
theorem ExactValidGraph_spec (w0 : World) (L : List Asn) (A : Option Addr) (c : Nat) (ms : List NdM) (hG : RdL w0 L A c ms) :
    Tr Try.prog 6 #[.agg #[.slice A ms.length c]] w0 L (fun v L' => v = .bool true ∧ L' = L) := by
  refine Tr.enter (args := [.agg #[.slice A ms.length c]]) Try.func6 Try.ntmps6 rfl rfl ?_
  refine GC.seq ?_
  refine GC.region ?_
  refine GL.box_agg rfl rfl ?_; intro g1
  refine GL.val (by exact EvP.r (Ev.assign rfl)) rfl rfl ?_
  refine GL.nil ?_
  refine GE.seq ?_
  refine GC.seq ?_
  refine GC.region ?_
  refine GL.val (by exact EvP.r (Ev.assign rfl)) rfl rfl ?_
  refine GL.nil ?_
  refine GE.seq ?_
  refine GC.seq ?_
  refine GC.region ?_
  refine GL.val (by exact (by first | exact Ev.load_blk_all rfl rfl (BlkRd.of_pick (by (repeat (first | exact Pick.head | apply Pick.tail)); fail_if_success (focus skip))) Imp.refl (by rfl) | exact Ev.load_blk_all rfl rfl (by assumption) (by first | exact Imp.refl | exact Imp.nil | ((repeat (first | exact Imp.refl | refine Imp.cons ?_)); fail_if_success (focus skip))) (by rfl))) rfl rfl ?_
  refine GL.val (by exact EvP.r (Ev.move rfl)) rfl rfl ?_
  refine GL.call rfl rfl (szGraph_spec _ _ _ _ _ (hG.imp (by first | exact Imp.refl | exact Imp.nil | ((repeat (first | exact Imp.refl | refine Imp.cons ?_)); fail_if_success (focus skip)))) _ (by omega) (by omega)) ?_
  rintro _ _ ⟨x, rfl, x1, x2, x3, e⟩
  rw [e]; clear e
  refine GL.val (by exact EvP.r (Ev.assign rfl)) rfl rfl ?_
  refine GL.nil ?_
  refine GE.seq ?_
  refine GC.seq ?_
  refine GC.seq ?_
  refine GC.region ?_
  refine GL.val (by exact EvP.r (Ev.move rfl)) rfl rfl ?_
  refine GL.val (by exact EvP.r (Ev.lss rfl rfl)) rfl rfl ?_
  refine GL.nil ?_
  refine GE.seq ?_
  first | refine GC.if_dec rfl (fun h1 => ?_) (fun h1 => ?_) | refine GC.if_ndec rfl (fun h1 => ?_) (fun h1 => ?_) | refine GC.if_not rfl (fun h1 => ?_) (fun h1 => ?_) | refine GC.if_bool rfl (fun h1 => ?_) (fun h1 => ?_)
  · -- T
    refine GC.seq ?_
    refine GC.region ?_
    refine GL.val (by exact EvP.r (Ev.assign rfl)) rfl rfl ?_
    refine GL.nil ?_
    refine GE.seq ?_
    refine GC.ret ?_
    refine GE.seq_ret ?_
    -- returns, path T
    refine GE.ret_tmp (L' := L) (.inl rfl) rfl rfl (by first | exact Sub.refl | exact Sub.nil | (repeat (first | exact Sub.refl | exact Sub.nil | refine Sub.cons (by (repeat (first | exact Pick.head | apply Pick.tail)); fail_if_success (focus skip)) ?_ | refine Sub.drop ?_))) ?_
    exact ⟨rfl, rfl⟩
  · -- F
    have hS := x3 (by omega)
    refine GC.skip ?_
    refine GE.seq ?_
    refine GC.seq ?_
    refine GC.region ?_
    refine GL.val (by exact (by first | exact Ev.load_blk_all rfl rfl (BlkRd.of_pick (by (repeat (first | exact Pick.head | apply Pick.tail)); fail_if_success (focus skip))) Imp.refl (by rfl) | exact Ev.load_blk_all rfl rfl (by assumption) (by first | exact Imp.refl | exact Imp.nil | ((repeat (first | exact Imp.refl | refine Imp.cons ?_)); fail_if_success (focus skip))) (by rfl))) rfl rfl ?_
    refine GL.call rfl rfl (toGraph_spec _ _ _ _ _ (hG.imp (by first | exact Imp.refl | exact Imp.nil | ((repeat (first | exact Imp.refl | refine Imp.cons ?_)); fail_if_success (focus skip)))) hS) ?_
    rintro _ _ ⟨B13, ns13, hgr13, rfl, rfl⟩
    have hS13 := hS.gr hgr13
    refine GL.callF rfl rfl (sValidGraph_spec _ _ _ _ _ (RdG.of_pick (by (repeat (first | exact Pick.head | apply Pick.tail)); fail_if_success (focus skip)) (by (repeat (first | exact Pick.head | apply Pick.tail)); fail_if_success (focus skip))) (by assumption)) ?_
    refine GL.val (by exact EvP.r (Ev.assign rfl)) rfl rfl ?_
    refine GL.nil ?_
    refine GE.seq ?_
    refine GC.seq ?_
    refine GC.region ?_
    refine GL.val (by exact (by first | exact Ev.load_blk_all rfl rfl (BlkRd.of_pick (by (repeat (first | exact Pick.head | apply Pick.tail)); fail_if_success (focus skip))) Imp.refl (by rfl) | exact Ev.load_blk_all rfl rfl (by assumption) (by first | exact Imp.refl | exact Imp.nil | ((repeat (first | exact Imp.refl | refine Imp.cons ?_)); fail_if_success (focus skip))) (by rfl))) rfl rfl ?_
    refine GL.call rfl rfl (toGraph_spec _ _ _ _ _ (hG.imp (by first | exact Imp.refl | exact Imp.nil | ((repeat (first | exact Imp.refl | refine Imp.cons ?_)); fail_if_success (focus skip)))) hS) ?_
    rintro _ _ ⟨B16, ns16, hgr16, rfl, rfl⟩
    have hS16 := hS.gr hgr16
    refine GL.alloc rfl ?_; intro g5
    refine GL.store_varN rfl rfl rfl (by (repeat (first | exact Pick.head | apply Pick.tail)); fail_if_success (focus skip)) (by rfl) (by rfl) (by rfl) ?_
    refine GL.nil ?_
    refine GE.seq ?_
    refine GC.seq ?_
    refine GC.region ?_
    refine GL.val (by exact (by first | exact Ev.load_blk_all rfl rfl (BlkRd.of_pick (by (repeat (first | exact Pick.head | apply Pick.tail)); fail_if_success (focus skip))) Imp.refl (by rfl) | exact Ev.load_blk_all rfl rfl (by assumption) (by first | exact Imp.refl | exact Imp.nil | ((repeat (first | exact Imp.refl | refine Imp.cons ?_)); fail_if_success (focus skip))) (by rfl))) rfl rfl ?_
    refine GL.callF rfl rfl (iValidGraph_spec _ _ _ _ _ (RdG.of_pick (by (repeat (first | exact Pick.head | apply Pick.tail)); fail_if_success (focus skip)) (by (repeat (first | exact Pick.head | apply Pick.tail)); fail_if_success (focus skip))) hS16.1) ?_
    refine GL.val (by exact EvP.r (Ev.assign rfl)) rfl rfl ?_
    refine GL.nil ?_
    refine GE.seq ?_
    refine GC.seq ?_
    refine GC.seq ?_
    refine GC.region ?_
    refine GL.val (by exact EvP.r (Ev.move rfl)) rfl rfl ?_
    refine GL.val (by exact EvP.r (Ev.move rfl)) rfl rfl ?_
    refine GL.val (by exact EvP.r (Ev.neq_bool rfl rfl)) rfl rfl ?_
    refine GL.nil ?_
    refine GE.seq ?_
    first | refine GC.if_dec rfl (fun h2 => ?_) (fun h2 => ?_) | refine GC.if_ndec rfl (fun h2 => ?_) (fun h2 => ?_) | refine GC.if_not rfl (fun h2 => ?_) (fun h2 => ?_) | refine GC.if_bool rfl (fun h2 => ?_) (fun h2 => ?_)
    · -- FT
      exact absurd h2 (by rw [hgr13, hgr16]; simp)
    · -- FF
      refine GC.skip ?_
      refine GE.seq ?_
      refine GC.seq ?_
      refine GC.seq ?_
      refine GC.region_any #[false, false, true, true, false] mixed ?_
      refine GA.read 0 #[false, true, true, false, false] rfl (by exact (by first | exact Ev.load_blk_all rfl rfl (BlkRd.of_pick (by (repeat (first | exact Pick.head | apply Pick.tail)); fail_if_success (focus skip))) Imp.refl (by rfl) | exact Ev.load_blk_all rfl rfl (by assumption) (by first | exact Imp.refl | exact Imp.nil | ((repeat (first | exact Imp.refl | refine Imp.cons ?_)); fail_if_success (focus skip))) (by rfl))) rfl rfl (by kernel_rfl) rfl (by kernel_rfl) (by kernel_rfl) (fun _ _ _ h => h) ?_
      refine GA.read 1 #[true, false, false, false, false] rfl (by exact (by first | exact Ev.load_blk_all rfl rfl (BlkRd.of_pick (by (repeat (first | exact Pick.head | apply Pick.tail)); fail_if_success (focus skip))) Imp.refl (by rfl) | exact Ev.load_blk_all rfl rfl (by assumption) (by first | exact Imp.refl | exact Imp.nil | ((repeat (first | exact Imp.refl | refine Imp.cons ?_)); fail_if_success (focus skip))) (by rfl))) rfl rfl (by kernel_rfl) rfl (by kernel_rfl) (by kernel_rfl) (fun _ _ _ h => h) ?_
      refine GA.branch (rs := [2]) (JOk.live (by exact (by first | exact Ev.load_blk_all rfl rfl (BlkRd.of_pick (by (repeat (first | exact Pick.head | apply Pick.tail)); fail_if_success (focus skip))) Imp.refl (by rfl) | exact Ev.load_blk_all rfl rfl (by assumption) (by first | exact Imp.refl | exact Imp.nil | ((repeat (first | exact Imp.refl | refine Imp.cons ?_)); fail_if_success (focus skip))) (by rfl))) (JOk.live (by exact (by first | exact Ev.load_blk_all rfl rfl (BlkRd.of_pick (by (repeat (first | exact Pick.head | apply Pick.tail)); fail_if_success (focus skip))) Imp.refl (by rfl) | exact Ev.load_blk_all rfl rfl (by assumption) (by first | exact Imp.refl | exact Imp.nil | ((repeat (first | exact Imp.refl | refine Imp.cons ?_)); fail_if_success (focus skip))) (by rfl))) JOk.nil)) (by kernel_rfl) (by simp) ?_
      refine GAs.cons rfl ?_ ?_
      · -- FF op 2
        refine GL.call rfl rfl (toGraph_spec _ _ _ _ _ (hG.imp (by first | exact Imp.refl | exact Imp.nil | ((repeat (first | exact Imp.refl | refine Imp.cons ?_)); fail_if_success (focus skip)))) hS) ?_
        rintro _ _ ⟨B24, ns24, hgr24, rfl, rfl⟩
        have hS24 := hS.gr hgr24
        refine GL.nil ?_
        refine GE.any ?_
        refine GA.branch (rs := [3]) (JOk.dead (by kernel_rfl) (JOk.live (by exact (by first | exact Ev.load_blk_all rfl rfl (BlkRd.of_pick (by (repeat (first | exact Pick.head | apply Pick.tail)); fail_if_success (focus skip))) Imp.refl (by rfl) | exact Ev.load_blk_all rfl rfl (by assumption) (by first | exact Imp.refl | exact Imp.nil | ((repeat (first | exact Imp.refl | refine Imp.cons ?_)); fail_if_success (focus skip))) (by rfl))) JOk.nil)) (by kernel_rfl) (by simp) ?_
        refine GAs.cons rfl ?_ ?_
        · -- FF op 3
          refine GL.callF rfl rfl (eqGraph_spec _ _ _ _ _ (RdG.of_pick (by (repeat (first | exact Pick.head | apply Pick.tail)); fail_if_success (focus skip)) (by (repeat (first | exact Pick.head | apply Pick.tail)); fail_if_success (focus skip))) _ _ _ (RdG.of_pick (by (repeat (first | exact Pick.head | apply Pick.tail)); fail_if_success (focus skip)) (by (repeat (first | exact Pick.head | apply Pick.tail)); fail_if_success (focus skip))) (by assumption)) ?_
          refine GL.nil ?_
          refine GE.any ?_
          refine GA.take 4 #[true, true, true, true, false] rfl (by exact Ev.not rfl) rfl rfl (by kernel_rfl) rfl (by kernel_rfl) (by kernel_rfl) (fun _ _ _ h => h) ?_
          refine GA.done (JOk.dead (by kernel_rfl) (JOk.dead (by kernel_rfl) JOk.nil)) (by kernel_rfl) ?_
          refine GE.seq ?_
          first | refine GC.if_dec rfl (fun h3 => ?_) (fun h3 => ?_) | refine GC.if_ndec rfl (fun h3 => ?_) (fun h3 => ?_) | refine GC.if_not rfl (fun h3 => ?_) (fun h3 => ?_) | refine GC.if_bool rfl (fun h3 => ?_) (fun h3 => ?_)
          · -- FFT
            exact absurd (hgr16.trans hgr24.symm) h3
          · -- FFF
            refine GC.skip ?_
            refine GE.seq ?_
            refine GC.seq ?_
            refine GC.region ?_
            refine GL.val (by exact EvP.r (Ev.assign rfl)) rfl rfl ?_
            refine GL.nil ?_
            refine GE.seq ?_
            refine GC.ret ?_
            -- returns, path FFF
            refine GE.ret_tmp (L' := L) (.inl rfl) rfl rfl (by first | exact Sub.refl | exact Sub.nil | (repeat (first | exact Sub.refl | exact Sub.nil | refine Sub.cons (by (repeat (first | exact Pick.head | apply Pick.tail)); fail_if_success (focus skip)) ?_ | refine Sub.drop ?_))) ?_
            exact ⟨rfl, rfl⟩
        exact GAs.nil
      exact GAs.nil
theorem fnExactValidGraph_calls {H : Type} {enc : TypeId × Value → H} {W : World} {base : Nat} {args : Array Value} {ds : List (DataW H)} {p : List MemPlace} (hval : ∀ (j : Nat) t v, Try.f6.params[j]? = some t → args[j]? = some v → Value.okWide Try.prog W .any base t v)
    (hA : DataW.TrodAll enc Try.prog W 0 (fun _ => true) true Try.f6.params.toList args.toList ds p) : Tr Try.prog 6 args W [] (fun v L' => v = .bool true ∧ L' = []) := by
  rw [Try.params6] at hA hval
  obtain ⟨v0, vs0, d0, ds0, p0, q0, hargs, rfl, rfl, h0, r0⟩ := trodAll_cons hA
  obtain ⟨rfl, rfl, rfl⟩ := trodAll_nil r0
  obtain rfl : args = #[v0] := by cases args; simp_all
  obtain ⟨A, c, ms, rfl, hG⟩ := arg_graph (hval 0 _ v0 rfl rfl) h0
  exact ExactValidGraph_spec W [] A c ms hG
theorem fnExactValidGraph_lifted (os : Os) (started : os.Started) (H : Type) (enc : TypeId × Value → H) :
    ReturnsInHanded {} Try.checked os 6 .any (Ytbdckppcljgpgaa.Rows.fnExactValidGraphSpec.pre6 enc Try.prog Try.f6 Ytbdckppcljgpgaa.Rows.fnExactValidGraphRow.domain false) (Ytbdckppcljgpgaa.Rows.fnExactValidGraphSpec.post enc Try.prog Try.f6 false true false false) := by
  refine returnsInHanded_of_change (C := Try.checked) own started (by kernel_rfl) Try.func6
    (ChangeSpec.witness6 (enc := enc) (C := Try.checked) false ⟨#[], #[.agg #[.slice none 0 0]], []⟩ 8 (by kernel_rfl) (by kernel_rfl) (by kernel_rfl) (by kernel_rfl)) ?_
  intro W base args ds gs before hval0 hW hcnd _
  have hval : ∀ (j : Nat) t v, Try.f6.params[j]? = some t → args[j]? = some v → Value.okWide Try.prog W .any base t v := hval0
  have hW' := hW
  obtain ⟨p, q, hA0, _⟩ := hW
  have hA : DataW.TrodAll enc Try.prog W 0 (fun _ => true) true Try.f6.params.toList args.toList ds p := hA0
  have hlen : ds.length = Try.f6.params.toList.length := trodAll_len hA
  rw [Try.params6] at hlen
  refine ((fnExactValidGraph_calls hval hA).go W (St.start W)).mono ?_
  rintro e W' ⟨v, L', ⟨rfl, rfl⟩, rfl, hs⟩
  exact ⟨_, rfl, law_post kids full (by rw [Try.params6]; decide) hW' rfl (fun hg => by subst hg; match ds, hlen with | [_], _ => exact bool_res) (fun hg => by subst hg; match ds, hlen with | [_], _ => rfl) (fun hg => by subst hg; match ds, hlen with | [_], _ => rfl) hs.below⟩
theorem fnExactValidGraph_over : Ytbdckppcljgpgaa.Rows.fnExactValidGraphRow.holds Try.pinned (OpenSpec.ofChange Ytbdckppcljgpgaa.Rows.fnExactValidGraphSpec) :=
  OpenClaim.holds_of_wide 6 Try.f6 rfl rfl rfl rfl rfl rfl rfl ⟨rfl, rfl, rfl, rfl, rfl⟩ rfl rfl rfl rfl rfl (by kernel_rfl) Try.func6 (by kernel_rfl)
    (of_decide_eq_true (by kernel_rfl)) (by unfold Func.isWrapper; first | (rw [if_pos (by decide +kernel)]; kernel_rfl) | (rw [if_neg (by decide +kernel)]; exact ⟨rfl, rfl⟩))
    (fun os started H enc _ => fnExactValidGraph_lifted os started H enc)
end SG
namespace Go.Proofs.Ytbdckppcljgpgaa
theorem fnExactValidGraph_proved : Rows.FnExactValidGraphSaid := SG.fnExactValidGraph_over
end Go.Proofs.Ytbdckppcljgpgaa
#print axioms Go.Proofs.Ytbdckppcljgpgaa.fnExactValidGraph_proved
