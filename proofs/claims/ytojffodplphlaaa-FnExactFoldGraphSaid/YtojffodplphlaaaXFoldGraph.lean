/- The law FnExactFoldGraph holds for every input. -/
import Derived.Test.YtojffodplphlaaaD23
import Derived.Test.YtojffodplphlaaaD34
import Derived.Test.YtojffodplphlaaaD52
import Derived.Test.YtojffodplphlaaaRows
namespace SG
open Go Go.RowKit Go.Proofs Go.Proofs.Ytojffodplphlaaa Go.ChangeShapes Go.WideShapes Go.Deep
set_option linter.unusedVariables false
set_option linter.unusedSimpArgs false
set_option maxRecDepth 100000
theorem FnExactFoldGraph_spec (w0 : World) (L : List Asn) (A : Option Addr) (c : Nat) (ms : List NdM) (hG : RdL w0 L A c ms) :
    Tr Try.prog 13 #[.agg #[.slice A ms.length c]] w0 L (fun v L' => v = .bool true ∧ L' = L) := by
  refine Tr.enter (args := [.agg #[.slice A ms.length c]]) Try.func13 Try.ntmps13 rfl rfl ?_
  refine GC.seq ?_
  refine GC.region ?_
  refine GL.box_agg rfl rfl ?_; intro g1
  refine GL.v Wag ?_
  refine GL.nil ?_
  refine GE.seq ?_
  refine GC.seq ?_
  refine GC.region ?_
  refine GL.v Wag ?_
  refine GL.nil ?_
  refine GE.seq ?_
  refine GC.seq ?_
  refine GC.region ?_
  refine GL.v Wlba ?_
  refine GL.v Wmv ?_
  refine GL.call rfl rfl (szGraph2_spec _ _ _ _ _ (RdL.imp (by assumption) Wim) _ (by omega) (by omega)) ?_
  rintro _ _ ⟨x13, rfl, x13a, x13b, x13c, e13⟩
  rw [e13]; clear e13
  refine GL.v Wag ?_
  refine GL.nil ?_
  refine GE.seq ?_
  refine GC.seq ?_
  refine GC.seq ?_
  refine GC.region ?_
  refine GL.v Wmv ?_
  refine GL.v Wls ?_
  refine GL.nil ?_
  refine GE.seq ?_
  refine GC.ifs (fun h1 => ?_) (fun h1 => ?_)
  · -- T
    refine GC.seq ?_
    refine GC.region ?_
    refine GL.v Wag ?_
    refine GL.nil ?_
    refine GE.seq ?_
    refine GC.ret ?_
    refine GE.seq_ret ?_
    -- returns, path T
    refine GE.ret_tmp (L' := L) (.inl rfl) rfl rfl Wsb ?_
    exact ⟨rfl, rfl⟩
  · -- F
    have hS := (x13c (by omega)).1
    have hSx := (x13c (by omega)).2
    have hSl := hS.1
    refine GC.skip ?_
    refine GE.seq ?_
    refine GC.seq ?_
    refine GC.region ?_
    refine GL.v Wlba ?_
    refine GL.call rfl rfl (toGraph_spec _ _ _ _ _ (RdL.imp (by assumption) Wim) (by assumption)) ?_
    rintro _ _ ⟨B17, ns17, hgr17, rfl, rfl⟩
    have hS17 := SizeG.gr (by assumption) hgr17
    refine GL.call rfl rfl (sFoldGraph_spec _ _ _ _ _ (by first | assumption | exact RdG.imp (by assumption) Wim | exact RdG.of_pick Wpk Wpk) (by assumption)) ?_
    rintro _ _ ⟨B18, d18, ns18, hgr18, rfl, rfl⟩
    have hZ18 := sizeG_fold hgr18
    rw [hgr17] at hgr18
    refine GL.alloc rfl ?_; intro g4
    refine GL.store_varN rfl rfl rfl Wpk (by rfl) (by rfl) (by rfl) ?_
    refine GL.nil ?_
    refine GE.seq ?_
    refine GC.seq ?_
    refine GC.region ?_
    refine GL.v Wlba ?_
    refine GL.call rfl rfl (toGraph_spec _ _ _ _ _ (RdL.imp (by assumption) Wim) (by assumption)) ?_
    rintro _ _ ⟨B20, ns20, hgr20, rfl, rfl⟩
    have hS20 := SizeG.gr (by assumption) hgr20
    refine GL.alloc rfl ?_; intro g5
    refine GL.store_varN rfl rfl rfl Wpk (by rfl) (by rfl) (by rfl) ?_
    refine GL.nil ?_
    refine GE.seq ?_
    refine GC.seq ?_
    refine GC.region ?_
    refine GL.v Wlba ?_
    refine GL.call rfl rfl (iFoldGraph_spec _ _ _ _ _ (by first | assumption | exact RdG.imp (by assumption) Wim | exact RdG.of_pick Wpk Wpk) (by assumption)) ?_
    rintro _ _ ⟨B22, d22, ns22, hgr22, rfl, rfl⟩
    have hZ22 := sizeG_fold hgr22
    rw [hgr20] at hgr22
    refine GL.alloc rfl ?_; intro g6
    refine GL.store_varN rfl rfl rfl Wpk (by rfl) (by rfl) (by rfl) ?_
    refine GL.nil ?_
    refine GE.seq ?_
    refine GC.seq ?_
    refine GC.seq ?_
    refine GC.region ?_
    refine GL.v Wlba ?_
    refine GL.v Wlba ?_
    refine GL.callF rfl rfl (eqGraph_spec _ _ _ _ _ (by first | assumption | exact RdG.imp (by assumption) Wim | exact RdG.of_pick Wpk Wpk) _ _ _ (by first | assumption | exact RdG.imp (by assumption) Wim | exact RdG.of_pick Wpk Wpk) (by assumption)) ?_
    refine GL.v Wnt ?_
    refine GL.nil ?_
    refine GE.seq ?_
    refine GC.ifs (fun h2 => ?_) (fun h2 => ?_)
    · -- FT
      exact absurd (hgr22.trans hgr18.symm) h2
    · -- FF
      refine GC.skip ?_
      refine GE.seq ?_
      refine GC.seq ?_
      refine GC.seq ?_
      refine GC.region_any #[false, false, true, true, false] mixed ?_
      refine GA.read 0 #[false, true, true, false, false] rfl (by exact Wlba) rfl rfl (by kernel_rfl) rfl (by kernel_rfl) (by kernel_rfl) (fun _ _ _ h => h) ?_
      refine GA.read 1 #[true, false, false, false, false] rfl (by exact Wlba) rfl rfl (by kernel_rfl) rfl (by kernel_rfl) (by kernel_rfl) (fun _ _ _ h => h) ?_
      refine GA.branch (rs := [2]) (JOk.live (by exact Wlba) (JOk.live (by exact Wlba) JOk.nil)) (by kernel_rfl) (by simp) ?_
      refine GAs.cons rfl ?_ ?_
      · -- FF op 2
        refine GL.call rfl rfl (toGraph_spec _ _ _ _ _ (RdL.imp (by assumption) Wim) (by assumption)) ?_
        rintro _ _ ⟨B29, ns29, hgr29, rfl, rfl⟩
        have hS29 := SizeG.gr (by assumption) hgr29
        refine GL.nil ?_
        refine GE.any ?_
        refine GA.branch (rs := [3]) (JOk.dead (by kernel_rfl) (JOk.live (by exact Wlba) JOk.nil)) (by kernel_rfl) (by simp) ?_
        refine GAs.cons rfl ?_ ?_
        · -- FF op 3
          refine GL.callF rfl rfl (eqGraph_spec _ _ _ _ _ (by first | assumption | exact RdG.imp (by assumption) Wim | exact RdG.of_pick Wpk Wpk) _ _ _ (by first | assumption | exact RdG.imp (by assumption) Wim | exact RdG.of_pick Wpk Wpk) (by assumption)) ?_
          refine GL.nil ?_
          refine GE.any ?_
          refine GA.take 4 #[true, true, true, true, false] rfl (by exact Ev.not rfl) rfl rfl (by kernel_rfl) rfl (by kernel_rfl) (by kernel_rfl) (fun _ _ _ h => h) ?_
          refine GA.done (JOk.dead (by kernel_rfl) (JOk.dead (by kernel_rfl) JOk.nil)) (by kernel_rfl) ?_
          refine GE.seq ?_
          refine GC.ifs (fun h3 => ?_) (fun h3 => ?_)
          · -- FFT
            exact absurd (hgr20.trans hgr29.symm) h3
          · -- FFF
            refine GC.skip ?_
            refine GE.seq ?_
            refine GC.seq ?_
            refine GC.region ?_
            refine GL.v Wag ?_
            refine GL.nil ?_
            refine GE.seq ?_
            refine GC.seq ?_
            refine GC.region ?_
            refine GL.v Wlba ?_
            refine GL.v Wmv ?_
            refine GL.front (A := partsA ns20) Wpk ?_
            refine GL.front (A := row nodeE B20 ns20.length ns20) Wpk ?_
            refine GL.call rfl rfl (markGraph_spec w0 _ B20 ns20.length ns20 hS20 _ (by decide) (by decide)) ?_
            rintro _ _ ⟨k34, ns34, qs34, rfl, k34a, k34b, rfl⟩
            refine GL.v Wag ?_
            refine GL.nil ?_
            refine GE.seq ?_
            refine GC.seq ?_
            refine GC.seq ?_
            refine GC.region ?_
            refine GL.v Wmv ?_
            refine GL.v Wls ?_
            refine GL.v Wmv ?_
            refine GL.gs (fun h4 => ?_) (fun h4 => ?_)
            · -- FFFt
              omega
            · -- FFFf
              refine GL.want rfl rfl ?_
              refine GL.v Wlba ?_
              refine GL.want rfl rfl ?_
              refine GL.v Wlba ?_
              refine GL.want rfl rfl ?_
              refine GL.callF rfl rfl (eqGraph_spec _ _ _ _ _ (by first | assumption | exact RdG.imp (by assumption) Wim | exact RdG.of_pick Wpk Wpk) _ _ _ (by first | assumption | exact RdG.imp (by assumption) Wim | exact RdG.of_pick Wpk Wpk) (by assumption)) ?_
              refine GL.want rfl rfl ?_
              refine GL.v Wnt ?_
              refine GL.v Wpf ?_
              refine GL.nil ?_
              refine GE.seq ?_
              refine GC.ifs (fun h5 => ?_) (fun h5 => ?_)
              · -- FFFfT
                exact absurd (hgr22.trans hgr18.symm) h5
              · -- FFFfF
                refine GC.skip ?_
                refine GE.seq ?_
                refine GC.seq ?_
                refine GC.region ?_
                refine GL.v Wag ?_
                refine GL.nil ?_
                refine GE.seq ?_
                refine GC.seq ?_
                refine GC.region ?_
                refine GL.v Wlba ?_
                refine GL.v Wmv ?_
                refine GL.front (A := partsA ns22) Wpk ?_
                refine GL.front (A := row nodeE B22 _ ns22) Wpk ?_
                refine GL.call rfl rfl (markGraphX_spec w0 _ B22 _ ns22 hZ22 _ Wom Wom) ?_
                rintro _ _ ⟨rfl, rfl⟩
                have hkb := nAt_bound (k := 1) hZ22 ns22.length (Nat.le_refl _)
                have hzl := hZ22.1
                refine GL.v Wag ?_
                refine GL.nil ?_
                refine GE.seq ?_
                refine GC.seq ?_
                refine GC.region ?_
                refine GL.v Wag ?_
                refine GL.nil ?_
                refine GE.seq ?_
                refine GC.seq ?_
                refine GC.region ?_
                refine GL.v Wlba ?_
                refine GL.v Wmv ?_
                refine GL.callF rfl rfl (heldGraph_spec _ _ _ _ _ ns22 _ (RdG.of_pick Wpk Wpk) hZ22 rfl (by decide) (by decide)) ?_
                refine GL.v Wag ?_
                refine GL.nil ?_
                refine GE.seq ?_
                refine GC.seq ?_
                refine GC.seq ?_
                refine GC.region ?_
                refine GL.v Wmv ?_
                refine GL.v Wls ?_
                refine GL.nil ?_
                refine GE.seq ?_
                refine GC.ifs (fun h6 => ?_) (fun h6 => ?_)
                · -- FFFfFT
                  omega
                · -- FFFfFF
                  refine GC.skip ?_
                  refine GE.seq ?_
                  refine GC.seq ?_
                  refine GC.seq ?_
                  refine GC.region ?_
                  refine GL.v Wmv ?_
                  refine GL.v Wmv ?_
                  refine GL.v Wnq ?_
                  refine GL.nil ?_
                  refine GE.seq ?_
                  refine GC.ifs (fun h7 => ?_) (fun h7 => ?_)
                  · -- FFFfFFT
                    exact absurd rfl h7
                  · -- FFFfFFF
                    refine GC.skip ?_
                    refine GE.seq ?_
                    refine GC.seq ?_
                    refine GC.region ?_
                    refine GL.v Wlba ?_
                    refine GL.call rfl rfl (toGraph_spec _ _ _ _ _ (RdL.imp (by assumption) Wim) (by assumption)) ?_
                    rintro _ _ ⟨B55, ns55, hgr55, rfl, rfl⟩
                    have hS55 := SizeG.gr (by assumption) hgr55
                    refine GL.call rfl rfl (iFoldGraph_spec _ _ _ _ _ (by first | assumption | exact RdG.imp (by assumption) Wim | exact RdG.of_pick Wpk Wpk) (by assumption)) ?_
                    rintro _ _ ⟨B56, d56, ns56, hgr56, rfl, rfl⟩
                    have hZ56 := sizeG_fold hgr56
                    rw [hgr55] at hgr56
                    refine GL.alloc rfl ?_; intro g10
                    refine GL.store_varN rfl rfl rfl Wpk (by rfl) (by rfl) (by rfl) ?_
                    refine GL.nil ?_
                    refine GE.seq ?_
                    refine GC.seq ?_
                    refine GC.seq ?_
                    refine GC.region ?_
                    refine GL.v Wlba ?_
                    refine GL.v Wlba ?_
                    refine GL.callF rfl rfl (eqGraph_spec _ _ _ _ _ (by first | assumption | exact RdG.imp (by assumption) Wim | exact RdG.of_pick Wpk Wpk) _ _ _ (by first | assumption | exact RdG.imp (by assumption) Wim | exact RdG.of_pick Wpk Wpk) (by assumption)) ?_
                    refine GL.v Wnt ?_
                    refine GL.nil ?_
                    refine GE.seq ?_
                    refine GC.ifs (fun h8 => ?_) (fun h8 => ?_)
                    · -- FFFfFFFT
                      exact absurd (hgr56.trans hgr18.symm) h8
                    · -- FFFfFFFF
                      refine GC.skip ?_
                      refine GE.seq ?_
                      refine GC.seq ?_
                      refine GC.region ?_
                      refine GL.v Wag ?_
                      refine GL.nil ?_
                      refine GE.seq ?_
                      refine GC.seq ?_
                      refine GC.region ?_
                      refine GL.v Wlba ?_
                      refine GL.v Wmv ?_
                      refine GL.callF rfl rfl (heldGraph_spec _ _ _ _ _ ns22 _ (RdG.of_pick Wpk Wpk) hZ22 rfl (by decide) (by decide)) ?_
                      refine GL.v Wag ?_
                      refine GL.nil ?_
                      refine GE.seq ?_
                      refine GC.seq ?_
                      refine GC.seq ?_
                      refine GC.region ?_
                      refine GL.v Wmv ?_
                      refine GL.v Wls ?_
                      refine GL.nil ?_
                      refine GE.seq ?_
                      refine GC.ifs (fun h9 => ?_) (fun h9 => ?_)
                      · -- FFFfFFFFT
                        omega
                      · -- FFFfFFFFF
                        refine GC.skip ?_
                        refine GE.seq ?_
                        refine GC.seq ?_
                        refine GC.seq ?_
                        refine GC.region ?_
                        refine GL.v Wmv ?_
                        refine GL.v Wmv ?_
                        refine GL.v Wnq ?_
                        refine GL.nil ?_
                        refine GE.seq ?_
                        refine GC.ifs (fun h10 => ?_) (fun h10 => ?_)
                        · -- FFFfFFFFFT
                          exact absurd rfl h10
                        · -- FFFfFFFFFF
                          refine GC.skip ?_
                          refine GE.seq ?_
                          refine GC.seq ?_
                          refine GC.region ?_
                          refine GL.v Wag ?_
                          refine GL.nil ?_
                          refine GE.seq ?_
                          refine GC.ret ?_
                          -- returns, path FFFfFFFFFF
                          refine GE.ret_tmp (L' := L) (.inl rfl) rfl rfl Wsb ?_
                          exact ⟨rfl, rfl⟩
        exact GAs.nil
      exact GAs.nil
theorem fnExactFoldGraph_calls {H : Type} {enc : TypeId × Value → H} {W : World} {base : Nat} {args : Array Value} {ds : List (DataW H)} {p : List MemPlace} (hval : ∀ (j : Nat) t v, Try.f13.params[j]? = some t → args[j]? = some v → Value.okWide Try.prog W .any base t v)
    (hA : DataW.TrodAll enc Try.prog W 0 (fun _ => true) true Try.f13.params.toList args.toList ds p) : Tr Try.prog 13 args W [] (fun v L' => v = .bool true ∧ L' = []) := by
  rw [Try.params13] at hA hval
  obtain ⟨v0, vs0, d0, ds0, p0, q0, hargs, rfl, rfl, h0, r0⟩ := trodAll_cons hA
  obtain ⟨rfl, rfl, rfl⟩ := trodAll_nil r0
  obtain rfl : args = #[v0] := by cases args; simp_all
  obtain ⟨A, c, ms, rfl, hG⟩ := arg_graph (hval 0 _ v0 rfl rfl) h0
  exact FnExactFoldGraph_spec W [] A c ms hG
theorem fnExactFoldGraph_lifted (os : Os) (started : os.Started) (H : Type) (enc : TypeId × Value → H) :
    ReturnsInHanded {} Try.checked os 13 .any (Ytojffodplphlaaa.Rows.fnExactFoldGraphSpec.pre6 enc Try.prog Try.f13 Ytojffodplphlaaa.Rows.fnExactFoldGraphRow.domain false) (Ytojffodplphlaaa.Rows.fnExactFoldGraphSpec.post enc Try.prog Try.f13 false true false false) := by
  refine returnsInHanded_of_change (C := Try.checked) own started (by kernel_rfl) Try.func13
    (ChangeSpec.witness6 (enc := enc) (C := Try.checked) false ⟨#[], #[.agg #[.slice none 0 0]], []⟩ 8 (by kernel_rfl) (by kernel_rfl) (by kernel_rfl) (by kernel_rfl)) ?_
  intro W base args ds gs before hval0 hW hcnd _
  have hval : ∀ (j : Nat) t v, Try.f13.params[j]? = some t → args[j]? = some v → Value.okWide Try.prog W .any base t v := hval0
  have hW' := hW
  obtain ⟨p, q, hA0, _⟩ := hW
  have hA : DataW.TrodAll enc Try.prog W 0 (fun _ => true) true Try.f13.params.toList args.toList ds p := hA0
  have hlen : ds.length = Try.f13.params.toList.length := trodAll_len hA
  rw [Try.params13] at hlen
  refine ((fnExactFoldGraph_calls hval hA).go W (St.start W)).mono ?_
  rintro e W' ⟨v, L', ⟨rfl, rfl⟩, rfl, hs⟩
  exact ⟨_, rfl, law_post kids full (by rw [Try.params13]; decide) hW' rfl (fun hg => by subst hg; match ds, hlen with | [_], _ => exact bool_res) (fun hg => by subst hg; match ds, hlen with | [_], _ => rfl) (fun hg => by subst hg; match ds, hlen with | [_], _ => rfl) hs.below⟩
theorem fnExactFoldGraph_over : Ytojffodplphlaaa.Rows.fnExactFoldGraphRow.holds Try.pinned (OpenSpec.ofChange Ytojffodplphlaaa.Rows.fnExactFoldGraphSpec) :=
  OpenClaim.holds_of_wide 13 Try.f13 rfl rfl rfl rfl rfl rfl rfl ⟨rfl, rfl, rfl, rfl, rfl⟩ rfl rfl rfl rfl rfl (by kernel_rfl) Try.func13 (by kernel_rfl)
    (of_decide_eq_true (by kernel_rfl)) (by unfold Func.isWrapper; first | (rw [if_pos (by decide +kernel)]; kernel_rfl) | (rw [if_neg (by decide +kernel)]; exact ⟨rfl, rfl⟩))
    (fun os started H enc _ => fnExactFoldGraph_lifted os started H enc)
end SG
namespace Go.Proofs.Ytojffodplphlaaa
theorem fnExactFoldGraph_proved : Rows.FnExactFoldGraphSaid := SG.fnExactFoldGraph_over
end Go.Proofs.Ytojffodplphlaaa
#print axioms Go.Proofs.Ytojffodplphlaaa.fnExactFoldGraph_proved
