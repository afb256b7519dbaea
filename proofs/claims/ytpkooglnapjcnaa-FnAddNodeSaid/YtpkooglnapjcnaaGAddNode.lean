/- The law FnAddNode holds for every input. -/
import Derived.Test.YtpkooglnapjcnaaD13
import Derived.Test.YtpkooglnapjcnaaD24
import Derived.Test.YtpkooglnapjcnaaD34
import Derived.Test.YtpkooglnapjcnaaRows
namespace SG
open Go Go.RowKit Go.Proofs Go.Proofs.Ytpkooglnapjcnaa Go.ChangeShapes Go.WideShapes Go.Deep
set_option linter.unusedVariables false
set_option linter.unusedSimpArgs false
set_option maxRecDepth 100000
theorem Tr.len3 {P : Program} {f : FuncId} {a : Value} {n : Nat} {B : Option Addr} {d : Nat} {w0 : World} {L : List Asn} {R : Value → List Asn → Prop} (xs : List Int) (h : n = xs.length) (hT : Tr P f #[.slice B xs.length d, a] w0 L R) : Tr P f #[.slice B n d, a] w0 L R := by rw [h]; exact hT
theorem FnAddNode_spec (w0 : World) (L : List Asn) (A : Option Addr) (c : Nat) (bs : List Int) (hR : Rd w0 [] byteE A c bs) (hb : ∀ x ∈ bs, 0 ≤ x ∧ x ≤ 255) :
    Tr Try.prog 7 #[.slice A bs.length c] w0 L (fun v L' => v = .bool true ∧ L' = L) := by
  refine Tr.rd_cap (hR.imp Imp.nil) fun hc1 hc2 => ?_
  refine Tr.enter (args := [.slice A bs.length c]) Try.func7 Try.ntmps7 rfl rfl ?_
  refine GC.seq ?_
  refine GC.region ?_
  refine GL.v Wag ?_
  refine GL.nil ?_
  refine GE.seq ?_
  refine GC.seq ?_
  refine GC.seq ?_
  refine GC.region ?_
  refine GL.v Wmv ?_
  refine GL.v Wln ?_
  refine GL.v Wgt ?_
  refine GL.nil ?_
  refine GE.seq ?_
  refine GC.ifs (fun h1 => ?_) (fun h1 => ?_)
  · -- T
    refine GC.seq ?_
    refine GC.region ?_
    refine GL.v Wag ?_
    refine GL.nil ?_
    refine GE.seq ?_
    refine GC.ret ?_
    refine GE.seq_ret ?_
    -- returns, path T
    refine GE.ret_tmp (L' := L) (.inl rfl) rfl rfl Wsb ?_
    exact ⟨rfl, rfl⟩
  · -- F
    refine GC.skip ?_
    refine GE.seq ?_
    refine GC.seq ?_
    refine GC.region ?_
    refine GL.v Wmv ?_
    refine GL.call rfl rfl (DrawAddNode_spec _ _ _ _ _ (by assumption) (by assumption) (by omega) (by omega)) ?_
    rintro _ _ ⟨D17, e17, ms17, k17, B17, d17, fp17, rfl, ms17a, ms17b, ms17c, fp17a, rfl⟩
    have hS17 := SizeG.small ms17b ms17c
    refine GL.v Wmv ?_
    refine GL.v Wxt ?_
    refine GL.v Wxt ?_
    refine GL.alloc rfl ?_; intro g3
    refine GL.alloc rfl ?_; intro g4
    refine GL.store_varN rfl rfl rfl Wpk (by rfl) (by rfl) (by rfl) ?_
    refine GL.store_varN rfl rfl rfl Wpk (by rfl) (by rfl) (by rfl) ?_
    refine GL.nil ?_
    refine GE.seq ?_
    refine GC.seq ?_
    refine GC.region ?_
    refine GL.v Wlba ?_
    refine GL.v Wlba ?_
    refine GL.call rfl rfl (iAddNode_spec _ _ _ _ _ (by first | assumption | exact RdG.imp (by assumption) Wim | exact RdG.of_pick Wpk Wpk) _ _ _ _ Wrd (by assumption) Wom Wom) ?_
    rintro _ _ ⟨B23, d23, ns23, hgr23, rfl, rfl⟩
    have hZ23 := sizeG_add hgr23 hS17 (by omega) (by omega)
    refine GL.v Wmv ?_
    refine GL.v Wxt ?_
    refine GL.v Wxt ?_
    refine GL.alloc rfl ?_; intro g5
    refine GL.store_varN rfl rfl rfl Wpk (by rfl) (by rfl) (by rfl) ?_
    refine GL.v Wag ?_
    refine GL.nil ?_
    refine GE.seq ?_
    refine GC.seq ?_
    refine GC.region ?_
    refine GL.v Wlba ?_
    refine GL.v Wlba ?_
    refine GL.call rfl rfl (sAddNode_spec _ _ _ _ _ (by first | assumption | exact RdG.imp (by assumption) Wim | exact RdG.of_pick Wpk Wpk) _ _ _ _ Wrd (by assumption) Wom Wom) ?_
    rintro _ _ ⟨B29, d29, ns29, hgr29, rfl, rfl⟩
    refine GL.v Wmv ?_
    refine GL.v Wxt ?_
    refine GL.v Wxt ?_
    refine GL.alloc rfl ?_; intro g7
    refine GL.store_varN rfl rfl rfl Wpk (by rfl) (by rfl) (by rfl) ?_
    refine GL.v Wag ?_
    refine GL.nil ?_
    refine GE.seq ?_
    refine GC.seq ?_
    refine GC.seq ?_
    refine GC.region ?_
    refine GL.v Wlba ?_
    refine GL.v Wlba ?_
    refine GL.callF rfl rfl (equalGraph_spec _ _ _ _ _ (by first | assumption | exact RdG.imp (by assumption) Wim | exact RdG.of_pick Wpk Wpk) _ _ _ (by first | assumption | exact RdG.imp (by assumption) Wim | exact RdG.of_pick Wpk Wpk) (by assumption)) ?_
    refine GL.v Wnt ?_
    refine GL.v Wmv ?_
    refine GL.gs (fun h2 => ?_) (fun h2 => ?_)
    · -- Ft
      exact absurd (hgr23.trans hgr29.symm) h2
    · -- Ff
      refine GL.want rfl rfl ?_
      refine GL.v Wmv ?_
      refine GL.want rfl rfl ?_
      refine GL.v Wmv ?_
      refine GL.want rfl rfl ?_
      refine GL.v (by exact EvP.r (Ev.neq_bool rfl rfl)) ?_
      refine GL.v Wpf ?_
      refine GL.v Wmv ?_
      refine GL.gs (fun h3 => ?_) (fun h3 => ?_)
      · -- Fft
        exact absurd rfl h3
      · -- Fff
        refine GL.want rfl rfl ?_
        refine GL.v Wmv ?_
        refine GL.want rfl rfl ?_
        refine GL.v Wnt ?_
        refine GL.v Wpf ?_
        refine GL.nil ?_
        refine GE.seq ?_
        refine GC.ifs (fun h4 => ?_) (fun h4 => ?_)
        · -- FffT
          refine GC.seq ?_
          refine GC.region ?_
          refine GL.v Wlba ?_
          refine GL.v Wlba ?_
          refine GL.callF rfl rfl (equalGraph_spec _ _ _ _ _ (by first | assumption | exact RdG.imp (by assumption) Wim | exact RdG.of_pick Wpk Wpk) _ _ _ (by first | assumption | exact RdG.imp (by assumption) Wim | exact RdG.of_pick Wpk Wpk) (by assumption)) ?_
          refine GL.v Wmv ?_
          refine GL.gs (fun h5 => ?_) (fun h5 => ?_)
          · -- FffTt
            refine GL.want rfl rfl ?_
            refine GL.v Wmv ?_
            refine GL.want rfl rfl ?_
            refine GL.v Wmv ?_
            refine GL.want rfl rfl ?_
            refine GL.v (by exact EvP.r (Ev.eql_bool rfl rfl)) ?_
            refine GL.v Wpt ?_
            refine GL.v Wag ?_
            refine GL.nil ?_
            refine GE.seq ?_
            refine GC.ret ?_
            refine GE.seq_ret ?_
            -- returns, path FffTt
            refine GE.ret_tmp (L' := L) (.inl rfl) rfl rfl Wsb ?_
            exact ⟨by simp, rfl⟩
          · -- FffTf
            exact absurd (hgr23.trans hgr29.symm) h5
        · -- FffF
          obtain ⟨hv1, hv2⟩ := addB_iff.1 h4
          rw [addL_yes h4] at hgr23
          have hnl : ns23.length = ms17.length + 1 := by have := congrArg List.length hgr23; simpa using this
          have hc1 : cellsV (gr ms17) (List.replicate ms17.length 0) = true := zero_cells hv1 (by simp)
          have hc2 : cellsV (gr ns23) (List.replicate ms17.length 0 ++ [0]) = true := by
            rw [hgr23, show List.replicate ms17.length (0 : Int) ++ [0] = List.replicate (ms17.length + 1) 0 by rw [List.replicate_succ']]
            exact zero_cells hv2 (by simp)
          have hm1 := meanL_length (gr ms17) (List.replicate ms17.length 0)
          have hm2 := meanL_length (gr ns23) (List.replicate ms17.length 0 ++ [0])
          rw [gr_length] at hm1 hm2
          have hma : (meanL (gr ns23) (List.replicate ms17.length 0 ++ [0])).take ms17.length = meanL (gr ms17) (List.replicate ms17.length 0) := by
            rw [hgr23, ← gr_length ms17]
            exact meanL_append (by simp)
          refine GC.skip ?_
          refine GE.seq ?_
          refine GC.seq ?_
          refine GC.region ?_
          refine GL.v Wfa ?_
          refine GL.v Wlb ?_
          refine GL.v Wln ?_
          refine GL.make rfl rfl Wik Wik (by omega) (by omega) rfl ?_; intro g56
          refine GL.v Wag ?_
          refine GL.nil ?_
          refine GE.seq ?_
          refine GC.seq ?_
          refine GC.region ?_
          refine GL.v Wlba ?_
          refine GL.v Wmv ?_
          refine GL.call rfl rfl (Tr.len2 (List.replicate ms17.length 0) (by simp) (iMeaningOf_spec _ _ _ _ _ (by first | assumption | exact RdG.imp (by assumption) Wim | exact RdG.of_pick Wpk Wpk) _ _ (List.replicate ms17.length 0) Wrd (by first | omega | exact SizeG.le (by assumption)) (by simp; omega))) ?_
          rintro _ _ ⟨B59, d59, rfl, rfl⟩
          rw [meanOfL_yes hc1]
          refine GL.v Wag ?_
          refine GL.nil ?_
          refine GE.seq ?_
          refine GC.seq ?_
          refine GC.region_any #[false, false, true, true, true, false] mixed ?_
          refine GA.read 0 #[false, true, true, true, false, false] rfl (by exact Wlba) rfl rfl (by kernel_rfl) rfl (by kernel_rfl) (by kernel_rfl) (fun _ _ _ h => h) ?_
          refine GA.take 1 #[true, false, true, false, false, false] rfl (by exact Ev.move rfl) rfl rfl (by kernel_rfl) rfl (by kernel_rfl) (by kernel_rfl) (fun _ _ _ h => h) ?_
          refine GA.branch (rs := [2]) (JOk.live (by exact Wlba) JOk.nil) (by kernel_rfl) (by simp) ?_
          refine GAs.cons rfl ?_ ?_
          · -- FffF op 2
            refine GL.buildSlice rfl (by first | exact bsInt0 | exact bsInt1 _ | exact bsInt2 _ _ | exact bsInt3 _ _ _ | exact bsInt4 _ _ _ _ | exact bsInt5 _ _ _ _ _ | exact bsInt6 _ _ _ _ _ _ | exact bsInt7 _ _ _ _ _ _ _ | exact bsInt8 _ _ _ _ _ _ _ _ | exact bsInt9 _ _ _ _ _ _ _ _ _ | exact bsInt10 _ _ _ _ _ _ _ _ _ _ | exact bsPart0 | exact bsPart1 ⟨_, _, _, _, _⟩ | exact bsNode1 ⟨_, _, _, _⟩ | exact bsPtr3 _ _ _ | exact bsSl0 | exact bsSl1 ⟨_, _, _⟩) rfl (by decide) rfl ?_; intro g62
            refine GL.nil ?_
            refine GE.any ?_
            refine GA.branch (rs := [3]) (JOk.live (by exact Wlba) JOk.nil) (by kernel_rfl) (by simp) ?_
            refine GAs.cons rfl ?_ ?_
            · -- FffF op 3
              first | (refine GL.append rfl rfl Wpk (by assumption) Wim (by first | rfl | (simp; done) | (simp; omega)) (by first | rfl | (simp; done) | (simp; omega)) (by first | omega | (simp; omega)) (by first | omega | (simp; omega)) rfl ?_; intro A63 c63) | (refine GL.append rfl rfl Wpk (Rd.of_pick Wpk) Imp.refl (by first | rfl | (simp; done) | (simp; omega)) (by first | rfl | (simp; done) | (simp; omega)) (by first | omega | (simp; omega)) (by first | omega | (simp; omega)) rfl ?_; intro A63 c63)
              refine GL.nil ?_
              refine GE.any ?_
              refine GA.branch (rs := [4]) (JOk.live (by exact Wlba) JOk.nil) (by kernel_rfl) (by simp) ?_
              refine GAs.cons rfl ?_ ?_
              · -- FffF op 4
                refine GL.call rfl rfl (iMeaningOf_spec _ _ _ _ _ (by first | assumption | exact RdG.imp (by assumption) Wim | exact RdG.of_pick Wpk Wpk) _ _ _ Wrd (by first | omega | exact SizeG.le (by assumption)) Wom) ?_
                rintro _ _ ⟨B64, d64, rfl, rfl⟩
                rw [meanOfL_yes hc2]
                refine GL.row_cap (E := intE) (A := B64) Wpk fun hd1 hd2 => ?_
                refine GL.nil ?_
                refine GE.any ?_
                refine GA.take 5 #[true, true, true, true, true, false] rfl (by exact Ev.assign rfl) rfl rfl (by kernel_rfl) rfl (by kernel_rfl) (by kernel_rfl) (fun _ _ _ h => h) ?_
                refine GA.done (JOk.dead (by kernel_rfl) JOk.nil) (by kernel_rfl) ?_
                refine GE.seq ?_
                refine GC.seq ?_
                refine GC.region ?_
                refine GL.v Wlba ?_
                refine GL.callF rfl rfl (iValidGraph_spec _ _ _ _ _ (by first | assumption | exact RdG.imp (by assumption) Wim | exact RdG.of_pick Wpk Wpk) (by first | omega | exact SizeG.le (by assumption))) ?_
                refine GL.v Wmv ?_
                refine GL.gs (fun h5 => ?_) (fun h5 => ?_)
                · -- FffFt
                  refine GL.want rfl rfl ?_
                  refine GL.v Wfa ?_
                  refine GL.want rfl rfl ?_
                  refine GL.v Wlb ?_
                  refine GL.want rfl rfl ?_
                  refine GL.v Wln ?_
                  refine GL.want rfl rfl ?_
                  refine GL.v Wfa ?_
                  refine GL.want rfl rfl ?_
                  refine GL.v Wlb ?_
                  refine GL.want rfl rfl ?_
                  refine GL.v Wln ?_
                  refine GL.want rfl rfl ?_
                  refine GL.v Wad ?_
                  refine GL.want rfl rfl ?_
                  refine GL.v Weq ?_
                  refine GL.v Wpt ?_
                  refine GL.v Wmv ?_
                  refine GL.gs (fun h6 => ?_) (fun h6 => ?_)
                  · -- FffFtt
                    refine GL.want rfl rfl ?_
                    refine GL.v Wmv ?_
                    refine GL.want rfl rfl ?_
                    refine GL.v Wmv ?_
                    refine GL.want rfl rfl ?_
                    refine GL.v Wln ?_
                    refine GL.want rfl rfl ?_
                    refine GL.v (by exact EvP.r (Ev.cut_to rfl rfl Wik (by omega))) ?_
                    refine GL.want rfl rfl ?_
                    refine GL.v Wmv ?_
                    refine GL.want rfl rfl ?_
                    refine GL.callF rfl rfl ((Tr.len3 ((meanL (gr ns23) (List.replicate ms17.length 0 ++ [0])).take ms17.length) (by rw [List.length_take]; omega) (equalInts_spec _ _ _ _ _ ((Rd.of_pick (xs := meanL (gr ns23) (List.replicate ms17.length 0 ++ [0])) Wpk).take _) _ _ _ Wrd (by rw [List.length_take]; omega)))) ?_
                    refine GL.v Wpt ?_
                    refine GL.v Wag ?_
                    refine GL.nil ?_
                    refine GE.seq ?_
                    refine GC.ret ?_
                    -- returns, path FffFtt
                    refine GE.ret_tmp (L' := L) (.inl rfl) rfl rfl Wsb ?_
                    exact ⟨by rw [decide_eq_true hma], rfl⟩
                  · -- FffFtf
                    omega
                · -- FffFf
                  rw [hgr23, hv2] at h5; cases h5
              exact GAs.nil
            exact GAs.nil
          exact GAs.nil
theorem fnAddNode_calls {H : Type} {enc : TypeId × Value → H} {W : World} {base : Nat} {args : Array Value} {ds : List (DataW H)} {p : List MemPlace} (hval : ∀ (j : Nat) t v, Try.f7.params[j]? = some t → args[j]? = some v → Value.okWide Try.prog W .any base t v)
    (hA : DataW.TrodAll enc Try.prog W 0 (fun _ => true) true Try.f7.params.toList args.toList ds p) : Tr Try.prog 7 args W [] (fun v L' => v = .bool true ∧ L' = []) := by
  rw [Try.params7] at hA hval
  obtain ⟨v0, vs0, d0, ds0, p0, q0, hargs, rfl, rfl, h0, r0⟩ := trodAll_cons hA
  obtain ⟨rfl, rfl, rfl⟩ := trodAll_nil r0
  obtain rfl : args = #[v0] := by cases args; simp_all
  obtain ⟨A, c, bs, rfl, hR, hb⟩ := arg_sl (E := byteE) (st := 22) (by kernel_rfl) (opens_bytes W) (hval 0 _ v0 rfl rfl) h0
  exact FnAddNode_spec W [] A c bs hR (fun x hx => wf_u8 (hb x hx))
theorem fnAddNode_lifted (os : Os) (started : os.Started) (H : Type) (enc : TypeId × Value → H) :
    ReturnsInHanded {} Try.checked os 7 .any (Ytpkooglnapjcnaa.Rows.fnAddNodeSpec.pre6 enc Try.prog Try.f7 Ytpkooglnapjcnaa.Rows.fnAddNodeRow.domain false) (Ytpkooglnapjcnaa.Rows.fnAddNodeSpec.post enc Try.prog Try.f7 false true false false) := by
  refine returnsInHanded_of_change (C := Try.checked) own started (by kernel_rfl) Try.func7
    (ChangeSpec.witness6 (enc := enc) (C := Try.checked) false ⟨#[], #[.slice none 0 0], []⟩ 8 (by kernel_rfl) (by kernel_rfl) (by kernel_rfl) (by kernel_rfl)) ?_
  intro W base args ds gs before hval0 hW hcnd _
  have hval : ∀ (j : Nat) t v, Try.f7.params[j]? = some t → args[j]? = some v → Value.okWide Try.prog W .any base t v := hval0
  have hW' := hW
  obtain ⟨p, q, hA0, _⟩ := hW
  have hA : DataW.TrodAll enc Try.prog W 0 (fun _ => true) true Try.f7.params.toList args.toList ds p := hA0
  have hlen : ds.length = Try.f7.params.toList.length := trodAll_len hA
  rw [Try.params7] at hlen
  refine ((fnAddNode_calls hval hA).go W (St.start W)).mono ?_
  rintro e W' ⟨v, L', ⟨rfl, rfl⟩, rfl, hs⟩
  exact ⟨_, rfl, law_post kids full (by rw [Try.params7]; decide) hW' rfl (fun hg => by subst hg; match ds, hlen with | [_], _ => exact bool_res) (fun hg => by subst hg; match ds, hlen with | [_], _ => rfl) (fun hg => by subst hg; match ds, hlen with | [_], _ => rfl) hs.below⟩
theorem fnAddNode_over : Ytpkooglnapjcnaa.Rows.fnAddNodeRow.holds Try.pinned (OpenSpec.ofChange Ytpkooglnapjcnaa.Rows.fnAddNodeSpec) :=
  OpenClaim.holds_of_wide 7 Try.f7 rfl rfl rfl rfl rfl rfl rfl ⟨rfl, rfl, rfl, rfl, rfl⟩ rfl rfl rfl rfl rfl (by kernel_rfl) Try.func7 (by kernel_rfl)
    (of_decide_eq_true (by kernel_rfl)) (by unfold Func.isWrapper; first | (rw [if_pos (by decide +kernel)]; kernel_rfl) | (rw [if_neg (by decide +kernel)]; exact ⟨rfl, rfl⟩))
    (fun os started H enc _ => fnAddNode_lifted os started H enc)
end SG
namespace Go.Proofs.Ytpkooglnapjcnaa
theorem fnAddNode_proved : Rows.FnAddNodeSaid := SG.fnAddNode_over
end Go.Proofs.Ytpkooglnapjcnaa
#print axioms Go.Proofs.Ytpkooglnapjcnaa.fnAddNode_proved
