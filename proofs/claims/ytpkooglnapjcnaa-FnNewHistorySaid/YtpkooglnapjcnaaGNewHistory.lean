/- The law FnNewHistory holds for every input. -/
import Derived.Test.YtpkooglnapjcnaaD13
import Derived.Test.YtpkooglnapjcnaaD30
import Derived.Test.YtpkooglnapjcnaaD31
import Derived.Test.YtpkooglnapjcnaaRows
namespace SG
open Go Go.RowKit Go.Proofs Go.Proofs.Ytpkooglnapjcnaa Go.ChangeShapes Go.WideShapes Go.Deep
set_option linter.unusedVariables false
set_option linter.unusedSimpArgs false
set_option maxRecDepth 100000
theorem FnNewHistory_spec (w0 : World) (L : List Asn) (A : Option Addr) (c : Nat) (bs : List Int) (hR : Rd w0 [] byteE A c bs) (hb : ∀ x ∈ bs, 0 ≤ x ∧ x ≤ 255) :
    Tr Try.prog 11 #[.slice A bs.length c] w0 L (fun v L' => v = .bool true ∧ L' = L) := by
  refine Tr.rd_cap (hR.imp Imp.nil) fun hc1 hc2 => ?_
  refine Tr.enter (args := [.slice A bs.length c]) Try.func11 Try.ntmps11 rfl rfl ?_
  refine GC.seq ?_
  refine GC.region ?_
  refine GL.v Wag ?_
  refine GL.nil ?_
  refine GE.seq ?_
  refine GC.seq ?_
  refine GC.seq ?_
  refine GC.region ?_
  refine GL.v Wmv ?_
  refine GL.v Wln ?_
  refine GL.v Wgt ?_
  refine GL.nil ?_
  refine GE.seq ?_
  refine GC.ifs (fun h1 => ?_) (fun h1 => ?_)
  · -- T
    refine GC.seq ?_
    refine GC.region ?_
    refine GL.v Wag ?_
    refine GL.nil ?_
    refine GE.seq ?_
    refine GC.ret ?_
    refine GE.seq_ret ?_
    -- returns, path T
    refine GE.ret_tmp (L' := L) (.inl rfl) rfl rfl Wsb ?_
    exact ⟨rfl, rfl⟩
  · -- F
    refine GC.skip ?_
    refine GE.seq ?_
    refine GC.seq ?_
    refine GC.region ?_
    refine GL.v Wmv ?_
    refine GL.call rfl rfl (DrawNewHistory_spec _ _ _ _ _ (by assumption) (by assumption) (by omega) (by omega)) ?_
    rintro _ _ ⟨D17, e17, ms17, B17, d17, xs17, rfl, ms17a, ms17b, ms17c, xs17a, xs17b, rfl⟩
    have hS17 := SizeG.small ms17b ms17c
    refine GL.v Wmv ?_
    refine GL.v Wxt ?_
    refine GL.v Wxt ?_
    refine GL.alloc rfl ?_; intro g3
    refine GL.store_varN rfl rfl rfl Wpk (by rfl) (by rfl) (by rfl) ?_
    refine GL.v Wag ?_
    refine GL.nil ?_
    refine GE.seq ?_
    refine GC.seq ?_
    refine GC.region ?_
    refine GL.v Wlba ?_
    refine GL.v Wmv ?_
    refine GL.call rfl rfl (iNewHistory_spec _ _ _ _ _ (by first | assumption | exact RdG.imp (by assumption) Wim | exact RdG.of_pick Wpk Wpk) _ _ _ Wrd (by first | omega | exact SizeG.le (by assumption)) Wom) ?_
    rintro _ _ ⟨B22, d22, ls22, hli22, rfl, rfl⟩
    have hZ22 := SizeLs.new hli22 (by omega)
    refine GL.alloc rfl ?_; intro g5
    refine GL.store_varN rfl rfl rfl Wpk (by rfl) (by rfl) (by rfl) ?_
    refine GL.nil ?_
    refine GE.seq ?_
    refine GC.seq ?_
    refine GC.seq ?_
    refine GC.region_any #[false, false, false, true, true, false, false, false, false, true, false, false] mixed ?_
    refine GA.read 0 #[false, true, true, true, false, false, false, false, false, false, false, false] rfl (by exact Wlba) rfl rfl (by kernel_rfl) rfl (by kernel_rfl) (by kernel_rfl) (fun _ _ _ h => h) ?_
    refine GA.read 1 #[true, false, true, false, false, false, false, false, false, false, false, false] rfl (by exact Wlba) rfl rfl (by kernel_rfl) rfl (by kernel_rfl) (by kernel_rfl) (fun _ _ _ h => h) ?_
    refine GA.take 2 #[true, true, false, false, false, false, false, false, false, false, false, false] rfl (by exact Ev.move rfl) rfl rfl (by kernel_rfl) rfl (by kernel_rfl) (by kernel_rfl) (fun _ _ _ h => h) ?_
    refine GA.branch (rs := [3]) (JOk.live (by exact Wlba) (JOk.live (by exact Wlba) JOk.nil)) (by kernel_rfl) (by simp) ?_
    refine GAs.cons rfl ?_ ?_
    · -- F op 3
      refine GL.call rfl rfl (sNewHistory_spec _ _ _ _ _ (by first | assumption | exact RdG.imp (by assumption) Wim | exact RdG.of_pick Wpk Wpk) _ _ _ Wrd (by assumption) Wom) ?_
      rintro _ _ ⟨B26, d26, ls26, hli26, rfl, rfl⟩
      refine GL.nil ?_
      refine GE.any ?_
      refine GA.branch (rs := [4]) (JOk.dead (by kernel_rfl) (JOk.live (by exact Wlba) JOk.nil)) (by kernel_rfl) (by simp) ?_
      refine GAs.cons rfl ?_ ?_
      · -- F op 4
        refine GL.callF rfl rfl (equalHistory_spec _ _ _ _ _ (by first | assumption | exact RdLs.imp (by assumption) Wim | exact RdLs.of_pick Wpk Wpk) _ _ _ _ (by first | assumption | exact RdLs.imp (by assumption) Wim | exact RdLs.of_pick Wpk Wpk) _ (by assumption)) ?_
        refine GL.nil ?_
        refine GE.any ?_
        refine GA.take 5 #[true, true, true, true, true, false, false, false, false, false, false, false] rfl (by exact Ev.not rfl) rfl rfl (by kernel_rfl) rfl (by kernel_rfl) (by kernel_rfl) (fun _ _ _ h => h) ?_
        refine GA.take 6 #[true, true, true, true, true, true, false, false, false, false, false, false] rfl (by exact Ev.move rfl) rfl rfl (by kernel_rfl) rfl (by kernel_rfl) (by kernel_rfl) (fun _ _ _ h => h) ?_
        first | refine GA.split_dec (d := 29) rfl (fun h2 => ?_) (fun h2 => ?_) | refine GA.split_ndec (d := 29) rfl (fun h2 => ?_) (fun h2 => ?_) | refine GA.split (d := 29) rfl (fun h2 => ?_) (fun h2 => ?_)
        · -- Ft
          exact absurd ⟨hli22.trans hli26.symm, rfl⟩ h2
        · -- Ff
          refine GA.read_want 7 #[true, true, true, true, true, true, true, false, true, false, false, false] rfl rfl rfl (by exact Wlba) rfl (by kernel_rfl) rfl (by kernel_rfl) (by kernel_rfl) (fun _ _ _ h => h) ?_
          refine GA.take_want 8 #[true, true, true, true, true, true, true, true, false, false, false, false] rfl rfl rfl (by exact Ev.move rfl) rfl (by kernel_rfl) rfl (by kernel_rfl) (by kernel_rfl) (fun _ _ _ h => h) ?_
          refine GA.branch (rs := [9]) (JOk.live (by exact Wlba) (JOk.dead (by kernel_rfl) (JOk.dead (by kernel_rfl) JOk.nil))) (by kernel_rfl) (by simp) ?_
          refine GAs.cons rfl ?_ ?_
          · -- Ff op 9
            refine GL.want rfl rfl ?_
            refine GL.callF rfl rfl (iValidCells_spec _ _ _ _ _ (by first | assumption | exact RdG.imp (by assumption) Wim | exact RdG.of_pick Wpk Wpk) _ _ _ Wrd (by first | omega | exact SizeG.le (by assumption)) Wom) ?_
            refine GL.nil ?_
            refine GE.any ?_
            refine GA.take_want 10 #[true, true, true, true, true, true, true, true, true, true, false, false] rfl rfl rfl (by exact Ev.not rfl) rfl (by kernel_rfl) rfl (by kernel_rfl) (by kernel_rfl) (fun _ _ _ h => h) ?_
            refine GA.take 11 #[true, true, true, true, true, true, true, true, true, true, true, false] rfl (by exact Ev.pick_false rfl rfl) rfl rfl (by kernel_rfl) rfl (by kernel_rfl) (by kernel_rfl) (fun _ _ _ h => h) ?_
            refine GA.done (JOk.dead (by kernel_rfl) (JOk.dead (by kernel_rfl) (JOk.dead (by kernel_rfl) JOk.nil))) (by kernel_rfl) ?_
            refine GE.seq ?_
            refine GC.ifs (fun h3 => ?_) (fun h3 => ?_)
            · -- FfT
              refine GC.seq ?_
              refine GC.region_any #[false, false, false, true, true, false] mixed ?_
              refine GA.read 0 #[false, true, true, true, false, false] rfl (by exact Wlba) rfl rfl (by kernel_rfl) rfl (by kernel_rfl) (by kernel_rfl) (fun _ _ _ h => h) ?_
              refine GA.read 1 #[true, false, true, false, false, false] rfl (by exact Wlba) rfl rfl (by kernel_rfl) rfl (by kernel_rfl) (by kernel_rfl) (fun _ _ _ h => h) ?_
              refine GA.take 2 #[true, true, false, false, false, false] rfl (by exact Ev.move rfl) rfl rfl (by kernel_rfl) rfl (by kernel_rfl) (by kernel_rfl) (fun _ _ _ h => h) ?_
              refine GA.branch (rs := [3]) (JOk.live (by exact Wlba) (JOk.live (by exact Wlba) JOk.nil)) (by kernel_rfl) (by simp) ?_
              refine GAs.cons rfl ?_ ?_
              · -- FfT op 3
                refine GL.call rfl rfl (sNewHistory_spec _ _ _ _ _ (by first | assumption | exact RdG.imp (by assumption) Wim | exact RdG.of_pick Wpk Wpk) _ _ _ Wrd (by assumption) Wom) ?_
                rintro _ _ ⟨B38, d38, ls38, hli38, rfl, rfl⟩
                refine GL.nil ?_
                refine GE.any ?_
                refine GA.branch (rs := [4]) (JOk.dead (by kernel_rfl) (JOk.live (by exact Wlba) JOk.nil)) (by kernel_rfl) (by simp) ?_
                refine GAs.cons rfl ?_ ?_
                · -- FfT op 4
                  refine GL.callF rfl rfl (equalHistory_spec _ _ _ _ _ (by first | assumption | exact RdLs.imp (by assumption) Wim | exact RdLs.of_pick Wpk Wpk) _ _ _ _ (by first | assumption | exact RdLs.imp (by assumption) Wim | exact RdLs.of_pick Wpk Wpk) _ (by assumption)) ?_
                  refine GL.nil ?_
                  refine GE.any ?_
                  refine GA.take 5 #[true, true, true, true, true, false] rfl (by exact Ev.assign rfl) rfl rfl (by kernel_rfl) rfl (by kernel_rfl) (by kernel_rfl) (fun _ _ _ h => h) ?_
                  refine GA.done (JOk.dead (by kernel_rfl) (JOk.dead (by kernel_rfl) JOk.nil)) (by kernel_rfl) ?_
                  refine GE.seq ?_
                  refine GC.ret ?_
                  refine GE.seq_ret ?_
                  -- returns, path FfT
                  refine GE.ret_tmp (L' := L) (.inl rfl) rfl rfl Wsb ?_
                  exact ⟨by rw [decide_eq_true ⟨hli22.trans hli38.symm, rfl⟩], rfl⟩
                exact GAs.nil
              exact GAs.nil
            · -- FfF
              have hcv : cellsV (gr ms17) xs17 = true := h3
              have hl1 : li ls22 = [xs17] := by rw [hli22, newL_yes hcv]
              have hl2 : ls22.length = 1 := by rw [← li_length, hl1]; rfl
              have hg0 : (ls22[0]'(by omega)).xs = xs17 := by have := li_getD (ls := ls22) (i := 0) (by omega); rw [← this, hl1]; rfl
              have hh : hisB (gr ms17) (li ls22) 0 = true := hisB_iff.2 ⟨(validG_iff.2 (cellsV_iff.1 hcv).1), by rw [li_length]; omega, by rw [li_length]; omega, fun ys hy => by rw [hl1, List.mem_singleton] at hy; rw [hy]; exact hcv⟩
              have hb1 : movB (gr ms17) (li ls22) 0 (-1) = false := by rw [movB, li_length, hl2, hh]; rfl
              have hb2 : movB (gr ms17) (li ls22) 0 1 = false := by rw [movB, li_length, hl2, hh]; rfl
              have hgl : (ls22[0]'(by omega)).xs.length ≤ 11 := by rw [hg0]; omega
              refine GC.skip ?_
              refine GE.seq ?_
              refine GC.seq ?_
              refine GC.region ?_
              refine GL.v Wlba ?_
              refine GL.v Wlba ?_
              refine GL.call rfl rfl (MoveHistory_spec _ _ _ _ _ (by first | assumption | exact RdG.imp (by assumption) Wim | exact RdG.of_pick Wpk Wpk) _ _ _ (by first | assumption | exact RdLs.imp (by assumption) Wim | exact RdLs.of_pick Wpk Wpk) _ _ (by first | omega | exact SizeG.le (by assumption)) (by assumption) (by omega) (by omega)) ?_
              rintro _ _ ⟨B43, d43, ls43, E43, f43, hli43, rfl, rfl⟩
              rw [hb1]
              refine GL.v Wmv ?_
              refine GL.v Wxt ?_
              refine GL.v Wxt ?_
              refine GL.v Wxt ?_
              refine GL.alloc rfl ?_; intro g6
              refine GL.store_varN rfl rfl rfl Wpk (by rfl) (by rfl) (by rfl) ?_
              refine GL.v Wag ?_
              refine GL.v Wag ?_
              refine GL.nil ?_
              refine GE.seq ?_
              refine GC.seq ?_
              refine GC.region ?_
              refine GL.v Wlba ?_
              refine GL.v Wlba ?_
              refine GL.call rfl rfl (MoveHistory_spec _ _ _ _ _ (by first | assumption | exact RdG.imp (by assumption) Wim | exact RdG.of_pick Wpk Wpk) _ _ _ (by first | assumption | exact RdLs.imp (by assumption) Wim | exact RdLs.of_pick Wpk Wpk) _ _ (by first | omega | exact SizeG.le (by assumption)) (by assumption) (by omega) (by omega)) ?_
              rintro _ _ ⟨B50, d50, ls50, E50, f50, hli50, rfl, rfl⟩
              rw [hb2]
              refine GL.v Wmv ?_
              refine GL.v Wxt ?_
              refine GL.v Wxt ?_
              refine GL.v Wxt ?_
              refine GL.alloc rfl ?_; intro g9
              refine GL.store_varN rfl rfl rfl Wpk (by rfl) (by rfl) (by rfl) ?_
              refine GL.v Wag ?_
              refine GL.v Wag ?_
              refine GL.nil ?_
              refine GE.seq ?_
              refine GC.seq ?_
              refine GC.region ?_
              refine GL.v Wlba ?_
              refine GL.v Wlba ?_
              refine GL.callF rfl rfl (iValidHistory_spec _ _ _ _ _ (by first | assumption | exact RdG.imp (by assumption) Wim | exact RdG.of_pick Wpk Wpk) _ _ _ (by first | assumption | exact RdLs.imp (by assumption) Wim | exact RdLs.of_pick Wpk Wpk) _ (by first | omega | exact SizeG.le (by assumption)) (by assumption)) ?_
              refine GL.v Wmv ?_
              refine GL.gs (fun h4 => ?_) (fun h4 => ?_)
              · -- FfFt
                refine GL.want rfl rfl ?_
                refine GL.v Wmv ?_
                refine GL.want rfl rfl ?_
                refine GL.v Wnt ?_
                refine GL.v Wpt ?_
                refine GL.v Wmv ?_
                refine GL.gs (fun h5 => ?_) (fun h5 => ?_)
                · -- FfFtt
                  refine GL.want rfl rfl ?_
                  refine GL.v Wmv ?_
                  refine GL.want rfl rfl ?_
                  refine GL.v Wnt ?_
                  refine GL.v Wpt ?_
                  refine GL.v Wmv ?_
                  refine GL.gs (fun h6 => ?_) (fun h6 => ?_)
                  · -- FfFttt
                    refine GL.want rfl rfl ?_
                    refine GL.v Wfa ?_
                    refine GL.want rfl rfl ?_
                    refine GL.v Wlb ?_
                    refine GL.want rfl rfl ?_
                    refine GL.v Wix ?_
                    refine GL.want rfl rfl ?_
                    refine GL.v Wle ?_
                    refine GL.want rfl rfl ?_
                    refine GL.v Wmv ?_
                    refine GL.want rfl rfl ?_
                    refine GL.callF rfl rfl (equalInts_spec _ _ _ _ _ (Rd.of_rows (ls := ls22) Wpk (List.getElem_mem (show 0 < ls22.length by omega))) _ _ _ Wrd (by omega)) ?_
                    refine GL.v Wpt ?_
                    refine GL.v Wag ?_
                    refine GL.nil ?_
                    refine GE.seq ?_
                    refine GC.ret ?_
                    -- returns, path FfFttt
                    refine GE.ret_tmp (L' := L) (.inl rfl) rfl rfl Wsb ?_
                    exact ⟨by rw [decide_eq_true hg0], rfl⟩
                  · -- FfFttf
                    cases h6
                · -- FfFtf
                  cases h5
              · -- FfFf
                rw [hh] at h4; cases h4
          exact GAs.nil
      exact GAs.nil
    exact GAs.nil
theorem fnNewHistory_calls {H : Type} {enc : TypeId × Value → H} {W : World} {base : Nat} {args : Array Value} {ds : List (DataW H)} {p : List MemPlace} (hval : ∀ (j : Nat) t v, Try.f11.params[j]? = some t → args[j]? = some v → Value.okWide Try.prog W .any base t v)
    (hA : DataW.TrodAll enc Try.prog W 0 (fun _ => true) true Try.f11.params.toList args.toList ds p) : Tr Try.prog 11 args W [] (fun v L' => v = .bool true ∧ L' = []) := by
  rw [Try.params11] at hA hval
  obtain ⟨v0, vs0, d0, ds0, p0, q0, hargs, rfl, rfl, h0, r0⟩ := trodAll_cons hA
  obtain ⟨rfl, rfl, rfl⟩ := trodAll_nil r0
  obtain rfl : args = #[v0] := by cases args; simp_all
  obtain ⟨A, c, bs, rfl, hR, hb⟩ := arg_sl (E := byteE) (st := 22) (by kernel_rfl) (opens_bytes W) (hval 0 _ v0 rfl rfl) h0
  exact FnNewHistory_spec W [] A c bs hR (fun x hx => wf_u8 (hb x hx))
theorem fnNewHistory_lifted (os : Os) (started : os.Started) (H : Type) (enc : TypeId × Value → H) :
    ReturnsInHanded {} Try.checked os 11 .any (Ytpkooglnapjcnaa.Rows.fnNewHistorySpec.pre6 enc Try.prog Try.f11 Ytpkooglnapjcnaa.Rows.fnNewHistoryRow.domain false) (Ytpkooglnapjcnaa.Rows.fnNewHistorySpec.post enc Try.prog Try.f11 false true false false) := by
  refine returnsInHanded_of_change (C := Try.checked) own started (by kernel_rfl) Try.func11
    (ChangeSpec.witness6 (enc := enc) (C := Try.checked) false ⟨#[], #[.slice none 0 0], []⟩ 8 (by kernel_rfl) (by kernel_rfl) (by kernel_rfl) (by kernel_rfl)) ?_
  intro W base args ds gs before hval0 hW hcnd _
  have hval : ∀ (j : Nat) t v, Try.f11.params[j]? = some t → args[j]? = some v → Value.okWide Try.prog W .any base t v := hval0
  have hW' := hW
  obtain ⟨p, q, hA0, _⟩ := hW
  have hA : DataW.TrodAll enc Try.prog W 0 (fun _ => true) true Try.f11.params.toList args.toList ds p := hA0
  have hlen : ds.length = Try.f11.params.toList.length := trodAll_len hA
  rw [Try.params11] at hlen
  refine ((fnNewHistory_calls hval hA).go W (St.start W)).mono ?_
  rintro e W' ⟨v, L', ⟨rfl, rfl⟩, rfl, hs⟩
  exact ⟨_, rfl, law_post kids full (by rw [Try.params11]; decide) hW' rfl (fun hg => by subst hg; match ds, hlen with | [_], _ => exact bool_res) (fun hg => by subst hg; match ds, hlen with | [_], _ => rfl) (fun hg => by subst hg; match ds, hlen with | [_], _ => rfl) hs.below⟩
theorem fnNewHistory_over : Ytpkooglnapjcnaa.Rows.fnNewHistoryRow.holds Try.pinned (OpenSpec.ofChange Ytpkooglnapjcnaa.Rows.fnNewHistorySpec) :=
  OpenClaim.holds_of_wide 11 Try.f11 rfl rfl rfl rfl rfl rfl rfl ⟨rfl, rfl, rfl, rfl, rfl⟩ rfl rfl rfl rfl rfl (by kernel_rfl) Try.func11 (by kernel_rfl)
    (of_decide_eq_true (by kernel_rfl)) (by unfold Func.isWrapper; first | (rw [if_pos (by decide +kernel)]; kernel_rfl) | (rw [if_neg (by decide +kernel)]; exact ⟨rfl, rfl⟩))
    (fun os started H enc _ => fnNewHistory_lifted os started H enc)
end SG
namespace Go.Proofs.Ytpkooglnapjcnaa
theorem fnNewHistory_proved : Rows.FnNewHistorySaid := SG.fnNewHistory_over
end Go.Proofs.Ytpkooglnapjcnaa
#print axioms Go.Proofs.Ytpkooglnapjcnaa.fnNewHistory_proved
