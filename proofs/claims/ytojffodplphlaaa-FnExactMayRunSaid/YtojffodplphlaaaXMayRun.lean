/- The law FnExactMayRun holds for every input. -/
import Derived.Test.YtojffodplphlaaaD9
import Derived.Test.YtojffodplphlaaaD23
import Derived.Test.YtojffodplphlaaaD37
import Derived.Test.YtojffodplphlaaaRows
namespace SG
open Go Go.RowKit Go.Proofs Go.Proofs.Ytojffodplphlaaa Go.ChangeShapes Go.WideShapes Go.Deep
set_option linter.unusedVariables false
set_option linter.unusedSimpArgs false
set_option maxRecDepth 100000
theorem FnExactMayRun_spec (w0 : World) (L : List Asn) (A : Option Addr) (c : Nat) (ms : List NdM) (hG : RdL w0 L A c ms) (B : Option Addr) (d : Nat) (xs : List Int) (hX : Rd w0 L intE B d xs) :
    Tr Try.prog 10 #[.agg #[.slice A ms.length c], .slice B xs.length d] w0 L (fun v L' => v = .bool true ∧ L' = L) := by
  refine Tr.rd_cap hX fun hd1 hd2 => ?_
  refine Tr.enter (args := [.agg #[.slice A ms.length c], .slice B xs.length d]) Try.func10 Try.ntmps10 rfl rfl ?_
  refine GC.seq ?_
  refine GC.region ?_
  refine GL.box_agg rfl rfl ?_; intro g2
  refine GL.v Wag ?_
  refine GL.nil ?_
  refine GE.seq ?_
  refine GC.seq ?_
  refine GC.seq ?_
  refine GC.region ?_
  refine GL.v Wmv ?_
  refine GL.v Wln ?_
  refine GL.v Wgt ?_
  refine GL.nil ?_
  refine GE.seq ?_
  refine GC.ifs (fun h1 => ?_) (fun h1 => ?_)
  · -- T
    refine GC.seq ?_
    refine GC.region ?_
    refine GL.v Wag ?_
    refine GL.nil ?_
    refine GE.seq ?_
    refine GC.ret ?_
    refine GE.seq_ret ?_
    -- returns, path T
    refine GE.ret_tmp (L' := L) (.inl rfl) rfl rfl Wsb ?_
    exact ⟨rfl, rfl⟩
  · -- F
    refine GC.skip ?_
    refine GE.seq ?_
    refine GC.seq ?_
    refine GC.region ?_
    refine GL.v Wag ?_
    refine GL.nil ?_
    refine GE.seq ?_
    refine GC.seq ?_
    refine GC.region ?_
    refine GL.v Wlba ?_
    refine GL.v Wmv ?_
    refine GL.call rfl rfl (szGraph_spec _ _ _ _ _ (RdL.imp (by assumption) Wim) _ (by omega) (by omega)) ?_
    rintro _ _ ⟨x19, rfl, x19a, x19b, x19c, e19⟩
    rw [e19]; clear e19
    refine GL.v Wag ?_
    refine GL.nil ?_
    refine GE.seq ?_
    refine GC.seq ?_
    refine GC.seq ?_
    refine GC.region ?_
    refine GL.v Wmv ?_
    refine GL.v Wls ?_
    refine GL.nil ?_
    refine GE.seq ?_
    refine GC.ifs (fun h2 => ?_) (fun h2 => ?_)
    · -- FT
      refine GC.seq ?_
      refine GC.region ?_
      refine GL.v Wag ?_
      refine GL.nil ?_
      refine GE.seq ?_
      refine GC.ret ?_
      refine GE.seq_ret ?_
      -- returns, path FT
      refine GE.ret_tmp (L' := L) (.inl rfl) rfl rfl Wsb ?_
      exact ⟨rfl, rfl⟩
    · -- FF
      have hS := x19c (by omega)
      have hSl := hS.1
      have hten := mayRunL_ten (gr ms) xs
      obtain ⟨R, hRes⟩ : ∃ r, mayRunL (gr ms) xs = r := ⟨_, rfl⟩
      rw [hRes] at hten
      refine GC.skip ?_
      refine GE.seq ?_
      refine GC.seq ?_
      refine GC.region ?_
      refine GL.v Wlba ?_
      refine GL.call rfl rfl (toGraph_spec _ _ _ _ _ (RdL.imp (by assumption) Wim) (by assumption)) ?_
      rintro _ _ ⟨B23, ns23, hgr23, rfl, rfl⟩
      have hS23 := SizeG.gr (by assumption) hgr23
      refine GL.v Wmv ?_
      refine GL.call rfl rfl (toIntS_spec _ _ _ _ _ Wrd Wom) ?_
      rintro _ _ ⟨B25, rfl, rfl⟩
      refine GL.call rfl rfl (sMayRun_spec _ _ _ _ _ (by first | assumption | exact RdG.imp (by assumption) Wim | exact RdG.of_pick Wpk Wpk) _ _ _ Wrd (by assumption) Wom) ?_
      rintro _ _ ⟨B26, d26, rfl, rfl⟩
      rw [hgr23, hRes]
      refine GL.v Wag ?_
      refine GL.nil ?_
      refine GE.seq ?_
      refine GC.seq ?_
      refine GC.region ?_
      refine GL.v Wlba ?_
      refine GL.call rfl rfl (toGraph_spec _ _ _ _ _ (RdL.imp (by assumption) Wim) (by assumption)) ?_
      rintro _ _ ⟨B28, ns28, hgr28, rfl, rfl⟩
      have hS28 := SizeG.gr (by assumption) hgr28
      refine GL.alloc rfl ?_; intro g7
      refine GL.store_varN rfl rfl rfl Wpk (by rfl) (by rfl) (by rfl) ?_
      refine GL.nil ?_
      refine GE.seq ?_
      refine GC.seq ?_
      refine GC.region ?_
      refine GL.v Wmv ?_
      refine GL.call rfl rfl (toIntS_spec _ _ _ _ _ Wrd Wom) ?_
      rintro _ _ ⟨B30, rfl, rfl⟩
      refine GL.v Wag ?_
      refine GL.nil ?_
      refine GE.seq ?_
      refine GC.seq ?_
      refine GC.region ?_
      refine GL.v Wlba ?_
      refine GL.v Wmv ?_
      refine GL.call rfl rfl (iMayRun_spec _ _ _ _ _ (by first | assumption | exact RdG.imp (by assumption) Wim | exact RdG.of_pick Wpk Wpk) _ _ _ Wrd (by first | omega | exact SizeG.le (by assumption)) Wom) ?_
      rintro _ _ ⟨B33, d33, rfl, rfl⟩
      rw [hgr28, hRes]
      refine GL.v Wag ?_
      refine GL.nil ?_
      refine GE.seq ?_
      refine GC.seq ?_
      refine GC.seq ?_
      refine GC.region ?_
      refine GL.v Wmv ?_
      refine GL.v Wmv ?_
      refine GL.callF rfl rfl (eqIntS_spec _ _ _ _ _ Wrd _ _ _ Wrd Wom) ?_
      refine GL.v Wnt ?_
      refine GL.nil ?_
      refine GE.seq ?_
      refine GC.ifs (fun h3 => ?_) (fun h3 => ?_)
      · -- FFT
        exact absurd rfl h3
      · -- FFF
        refine GC.skip ?_
        refine GE.seq ?_
        refine GC.seq ?_
        refine GC.seq ?_
        refine GC.region_any #[false, false, true, true, false] mixed ?_
        refine GA.read 0 #[false, true, true, false, false] rfl (by exact Wlba) rfl rfl (by kernel_rfl) rfl (by kernel_rfl) (by kernel_rfl) (fun _ _ _ h => h) ?_
        refine GA.read 1 #[true, false, false, false, false] rfl (by exact Wlba) rfl rfl (by kernel_rfl) rfl (by kernel_rfl) (by kernel_rfl) (fun _ _ _ h => h) ?_
        refine GA.branch (rs := [2]) (JOk.live (by exact Wlba) (JOk.live (by exact Wlba) JOk.nil)) (by kernel_rfl) (by simp) ?_
        refine GAs.cons rfl ?_ ?_
        · -- FFF op 2
          refine GL.call rfl rfl (toGraph_spec _ _ _ _ _ (RdL.imp (by assumption) Wim) (by assumption)) ?_
          rintro _ _ ⟨B40, ns40, hgr40, rfl, rfl⟩
          have hS40 := SizeG.gr (by assumption) hgr40
          refine GL.nil ?_
          refine GE.any ?_
          refine GA.branch (rs := [3]) (JOk.dead (by kernel_rfl) (JOk.live (by exact Wlba) JOk.nil)) (by kernel_rfl) (by simp) ?_
          refine GAs.cons rfl ?_ ?_
          · -- FFF op 3
            refine GL.callF rfl rfl (eqGraph_spec _ _ _ _ _ (by first | assumption | exact RdG.imp (by assumption) Wim | exact RdG.of_pick Wpk Wpk) _ _ _ (by first | assumption | exact RdG.imp (by assumption) Wim | exact RdG.of_pick Wpk Wpk) (by assumption)) ?_
            refine GL.nil ?_
            refine GE.any ?_
            refine GA.take 4 #[true, true, true, true, false] rfl (by exact Ev.not rfl) rfl rfl (by kernel_rfl) rfl (by kernel_rfl) (by kernel_rfl) (fun _ _ _ h => h) ?_
            refine GA.done (JOk.dead (by kernel_rfl) (JOk.dead (by kernel_rfl) JOk.nil)) (by kernel_rfl) ?_
            refine GE.seq ?_
            refine GC.ifs (fun h4 => ?_) (fun h4 => ?_)
            · -- FFFT
              exact absurd (hgr28.trans hgr40.symm) h4
            · -- FFFF
              refine GC.skip ?_
              refine GE.seq ?_
              refine GC.seq ?_
              refine GC.seq ?_
              refine GC.region ?_
              refine GL.v Wmv ?_
              refine GL.v Wmv ?_
              refine GL.call rfl rfl (toIntS_spec _ _ _ _ _ Wrd Wom) ?_
              rintro _ _ ⟨B45, rfl, rfl⟩
              refine GL.callF rfl rfl (eqIntS_spec _ _ _ _ _ Wrd _ _ _ Wrd Wom) ?_
              refine GL.v Wnt ?_
              refine GL.nil ?_
              refine GE.seq ?_
              refine GC.ifs (fun h5 => ?_) (fun h5 => ?_)
              · -- FFFFT
                exact absurd rfl h5
              · -- FFFFF
                refine GC.skip ?_
                refine GE.seq ?_
                refine GC.seq ?_
                refine GC.region ?_
                refine GL.v Wag ?_
                refine GL.nil ?_
                refine GE.seq ?_
                refine GC.seq ?_
                refine GC.region ?_
                refine GL.v Wlba ?_
                refine GL.v Wmv ?_
                refine GL.front (A := partsA ns28) Wpk ?_
                refine GL.front (A := row nodeE B28 ns28.length ns28) Wpk ?_
                refine GL.call rfl rfl (markGraph_spec w0 _ B28 ns28.length ns28 hS28 _ (by decide) (by decide)) ?_
                rintro _ _ ⟨k50, ns50, qs50, rfl, k50a, k50b, rfl⟩
                refine GL.v Wag ?_
                refine GL.nil ?_
                refine GE.seq ?_
                refine GC.seq ?_
                refine GC.region ?_
                refine GL.v Wmv ?_
                refine GL.v Wmv ?_
                refine GL.callP rfl rfl Wpk (markIntS_spec _ _ _ _ _ _ Wom Wom Wom) ?_
                rintro _ _ ⟨rfl, rfl⟩
                refine GL.v Wag ?_
                refine GL.nil ?_
                refine GE.seq ?_
                refine GC.seq ?_
                refine GC.seq ?_
                refine GC.region ?_
                refine GL.v Wmv ?_
                refine GL.v Wls ?_
                refine GL.v Wmv ?_
                refine GL.gs (fun h6 => ?_) (fun h6 => ?_)
                · -- FFFFFt
                  omega
                · -- FFFFFf
                  refine GL.want rfl rfl ?_
                  refine GL.v Wmv ?_
                  refine GL.want rfl rfl ?_
                  refine GL.v Wmv ?_
                  refine GL.want rfl rfl ?_
                  refine GL.callF rfl rfl (eqIntS_spec _ _ _ _ _ Wrd _ _ _ Wrd Wom) ?_
                  refine GL.want rfl rfl ?_
                  refine GL.v Wnt ?_
                  refine GL.v Wpf ?_
                  refine GL.nil ?_
                  refine GE.seq ?_
                  refine GC.ifs (fun h7 => ?_) (fun h7 => ?_)
                  · -- FFFFFfT
                    exact absurd rfl h7
                  · -- FFFFFfF
                    refine GC.skip ?_
                    refine GE.seq ?_
                    refine GC.seq ?_
                    refine GC.region ?_
                    refine GL.v Wag ?_
                    refine GL.nil ?_
                    refine GE.seq ?_
                    refine GC.seq ?_
                    refine GC.region ?_
                    refine GL.v Wmv ?_
                    refine GL.v Wmv ?_
                    refine GL.callP rfl rfl Wpk (markIntS_spec _ _ _ _ _ _ Wom Wom Wom) ?_
                    rintro _ _ ⟨rfl, rfl⟩
                    refine GL.v Wag ?_
                    refine GL.nil ?_
                    refine GE.seq ?_
                    refine GC.seq ?_
                    refine GC.region ?_
                    refine GL.v Wag ?_
                    refine GL.nil ?_
                    refine GE.seq ?_
                    refine GC.seq ?_
                    refine GC.region ?_
                    refine GL.v Wmv ?_
                    refine GL.v Wmv ?_
                    refine GL.callF rfl rfl (heldIntS_spec _ _ _ _ _ _ Wrd Wom Wom Wom) ?_
                    refine GL.v Wag ?_
                    refine GL.nil ?_
                    refine GE.seq ?_
                    refine GC.seq ?_
                    refine GC.seq ?_
                    refine GC.region ?_
                    refine GL.v Wmv ?_
                    refine GL.v Wls ?_
                    refine GL.nil ?_
                    refine GE.seq ?_
                    refine GC.ifs (fun h8 => ?_) (fun h8 => ?_)
                    · -- FFFFFfFT
                      omega
                    · -- FFFFFfFF
                      refine GC.skip ?_
                      refine GE.seq ?_
                      refine GC.seq ?_
                      refine GC.seq ?_
                      refine GC.region ?_
                      refine GL.v Wmv ?_
                      refine GL.v Wmv ?_
                      refine GL.v Wnq ?_
                      refine GL.nil ?_
                      refine GE.seq ?_
                      refine GC.ifs (fun h9 => ?_) (fun h9 => ?_)
                      · -- FFFFFfFFT
                        exact absurd rfl h9
                      · -- FFFFFfFFF
                        refine GC.skip ?_
                        refine GE.seq ?_
                        refine GC.seq ?_
                        refine GC.region ?_
                        refine GL.v Wlba ?_
                        refine GL.call rfl rfl (toGraph_spec _ _ _ _ _ (RdL.imp (by assumption) Wim) (by assumption)) ?_
                        rintro _ _ ⟨B74, ns74, hgr74, rfl, rfl⟩
                        have hS74 := SizeG.gr (by assumption) hgr74
                        refine GL.v Wmv ?_
                        refine GL.call rfl rfl (toIntS_spec _ _ _ _ _ Wrd Wom) ?_
                        rintro _ _ ⟨B76, rfl, rfl⟩
                        refine GL.call rfl rfl (iMayRun_spec _ _ _ _ _ (by first | assumption | exact RdG.imp (by assumption) Wim | exact RdG.of_pick Wpk Wpk) _ _ _ Wrd (by first | omega | exact SizeG.le (by assumption)) Wom) ?_
                        rintro _ _ ⟨B77, d77, rfl, rfl⟩
                        rw [hgr74, hRes]
                        refine GL.v Wag ?_
                        refine GL.nil ?_
                        refine GE.seq ?_
                        refine GC.seq ?_
                        refine GC.seq ?_
                        refine GC.region ?_
                        refine GL.v Wmv ?_
                        refine GL.v Wmv ?_
                        refine GL.callF rfl rfl (eqIntS_spec _ _ _ _ _ Wrd _ _ _ Wrd Wom) ?_
                        refine GL.v Wnt ?_
                        refine GL.nil ?_
                        refine GE.seq ?_
                        refine GC.ifs (fun h10 => ?_) (fun h10 => ?_)
                        · -- FFFFFfFFFT
                          exact absurd rfl h10
                        · -- FFFFFfFFFF
                          refine GC.skip ?_
                          refine GE.seq ?_
                          refine GC.seq ?_
                          refine GC.region ?_
                          refine GL.v Wag ?_
                          refine GL.nil ?_
                          refine GE.seq ?_
                          refine GC.seq ?_
                          refine GC.region ?_
                          refine GL.v Wmv ?_
                          refine GL.v Wmv ?_
                          refine GL.callF rfl rfl (heldIntS_spec _ _ _ _ _ _ Wrd Wom Wom Wom) ?_
                          refine GL.v Wag ?_
                          refine GL.nil ?_
                          refine GE.seq ?_
                          refine GC.seq ?_
                          refine GC.seq ?_
                          refine GC.region ?_
                          refine GL.v Wmv ?_
                          refine GL.v Wls ?_
                          refine GL.nil ?_
                          refine GE.seq ?_
                          refine GC.ifs (fun h11 => ?_) (fun h11 => ?_)
                          · -- FFFFFfFFFFT
                            omega
                          · -- FFFFFfFFFFF
                            refine GC.skip ?_
                            refine GE.seq ?_
                            refine GC.seq ?_
                            refine GC.seq ?_
                            refine GC.region ?_
                            refine GL.v Wmv ?_
                            refine GL.v Wmv ?_
                            refine GL.v Wnq ?_
                            refine GL.nil ?_
                            refine GE.seq ?_
                            refine GC.ifs (fun h12 => ?_) (fun h12 => ?_)
                            · -- FFFFFfFFFFFT
                              exact absurd rfl h12
                            · -- FFFFFfFFFFFF
                              refine GC.skip ?_
                              refine GE.seq ?_
                              refine GC.seq ?_
                              refine GC.region ?_
                              refine GL.v Wag ?_
                              refine GL.nil ?_
                              refine GE.seq ?_
                              refine GC.ret ?_
                              -- returns, path FFFFFfFFFFFF
                              refine GE.ret_tmp (L' := L) (.inl rfl) rfl rfl Wsb ?_
                              exact ⟨rfl, rfl⟩
          exact GAs.nil
        exact GAs.nil
theorem fnExactMayRun_calls {H : Type} {enc : TypeId × Value → H} {W : World} {base : Nat} {args : Array Value} {ds : List (DataW H)} {p : List MemPlace} (hval : ∀ (j : Nat) t v, Try.f10.params[j]? = some t → args[j]? = some v → Value.okWide Try.prog W .any base t v)
    (hA : DataW.TrodAll enc Try.prog W 0 (fun _ => true) true Try.f10.params.toList args.toList ds p) : Tr Try.prog 10 args W [] (fun v L' => v = .bool true ∧ L' = []) := by
  rw [Try.params10] at hA hval
  obtain ⟨v0, vs0, d0, ds0, p0, q0, hargs, rfl, rfl, h0, r0⟩ := trodAll_cons hA
  obtain ⟨v1, vs1, d1, ds1, p1, q1, rfl, rfl, rfl, h1, r1⟩ := trodAll_cons r0
  obtain ⟨rfl, rfl, rfl⟩ := trodAll_nil r1
  obtain rfl : args = #[v0, v1] := by cases args; simp_all
  obtain ⟨A, c, ms, rfl, hG⟩ := arg_graph (hval 0 _ v0 rfl rfl) h0
  obtain ⟨B, d, xs, rfl, hX, _⟩ := arg_sl (E := intE) (st := 26) (by kernel_rfl) (opens_ints W) (hval 1 _ v1 rfl rfl) h1
  exact FnExactMayRun_spec W [] A c ms hG B d xs hX
theorem fnExactMayRun_lifted (os : Os) (started : os.Started) (H : Type) (enc : TypeId × Value → H) :
    ReturnsInHanded {} Try.checked os 10 .any (Ytojffodplphlaaa.Rows.fnExactMayRunSpec.pre6 enc Try.prog Try.f10 Ytojffodplphlaaa.Rows.fnExactMayRunRow.domain false) (Ytojffodplphlaaa.Rows.fnExactMayRunSpec.post enc Try.prog Try.f10 false true false false) := by
  refine returnsInHanded_of_change (C := Try.checked) own started (by kernel_rfl) Try.func10
    (ChangeSpec.witness6 (enc := enc) (C := Try.checked) false ⟨#[], #[.agg #[.slice none 0 0], .slice none 0 0], []⟩ 8 (by kernel_rfl) (by kernel_rfl) (by kernel_rfl) (by kernel_rfl)) ?_
  intro W base args ds gs before hval0 hW hcnd _
  have hval : ∀ (j : Nat) t v, Try.f10.params[j]? = some t → args[j]? = some v → Value.okWide Try.prog W .any base t v := hval0
  have hW' := hW
  obtain ⟨p, q, hA0, _⟩ := hW
  have hA : DataW.TrodAll enc Try.prog W 0 (fun _ => true) true Try.f10.params.toList args.toList ds p := hA0
  have hlen : ds.length = Try.f10.params.toList.length := trodAll_len hA
  rw [Try.params10] at hlen
  refine ((fnExactMayRun_calls hval hA).go W (St.start W)).mono ?_
  rintro e W' ⟨v, L', ⟨rfl, rfl⟩, rfl, hs⟩
  exact ⟨_, rfl, law_post kids full (by rw [Try.params10]; decide) hW' rfl (fun hg => by subst hg; match ds, hlen with | [_, _], _ => exact bool_res) (fun hg => by subst hg; match ds, hlen with | [_, _], _ => rfl) (fun hg => by subst hg; match ds, hlen with | [_, _], _ => rfl) hs.below⟩
theorem fnExactMayRun_over : Ytojffodplphlaaa.Rows.fnExactMayRunRow.holds Try.pinned (OpenSpec.ofChange Ytojffodplphlaaa.Rows.fnExactMayRunSpec) :=
  OpenClaim.holds_of_wide 10 Try.f10 rfl rfl rfl rfl rfl rfl rfl ⟨rfl, rfl, rfl, rfl, rfl⟩ rfl rfl rfl rfl rfl (by kernel_rfl) Try.func10 (by kernel_rfl)
    (of_decide_eq_true (by kernel_rfl)) (by unfold Func.isWrapper; first | (rw [if_pos (by decide +kernel)]; kernel_rfl) | (rw [if_neg (by decide +kernel)]; exact ⟨rfl, rfl⟩))
    (fun os started H enc _ => fnExactMayRun_lifted os started H enc)
end SG
namespace Go.Proofs.Ytojffodplphlaaa
theorem fnExactMayRun_proved : Rows.FnExactMayRunSaid := SG.fnExactMayRun_over
end Go.Proofs.Ytojffodplphlaaa
#print axioms Go.Proofs.Ytojffodplphlaaa.fnExactMayRun_proved
