/- The law FnExactCellsAfter holds for every input. -/
import Derived.Test.YtllepoepfkobfaaD23
import Derived.Test.YtllepoepfkobfaaD43
import Derived.Test.YtllepoepfkobfaaD46
import Derived.Test.YtllepoepfkobfaaD47
import Derived.Test.YtllepoepfkobfaaRows
namespace SG
open Go Go.RowKit Go.Proofs Go.Proofs.Ytllepoepfkobfaa Go.ChangeShapes Go.WideShapes Go.Deep
set_option linter.unusedVariables false
set_option linter.unusedSimpArgs false
set_option maxRecDepth 100000
theorem FnExactCellsAfter_spec (w0 : World) (L : List Asn) (A : Option Addr) (c : Nat) (ms : List NdM) (hG : RdL w0 L A c ms) (B : Option Addr) (d : Nat) (xs : List Int) (hX : Rd w0 L intE B d xs) (E : Option Addr) (e : Nat) (acts : List Act3) (hA : Rd w0 L lactE E e acts) :
    Tr Try.prog 8 #[.agg #[.slice A ms.length c], .slice B xs.length d, .slice E acts.length e] w0 L (fun v L' => v = .bool true ∧ L' = L) := by
  refine Tr.rd_cap hX fun hd1 hd2 => ?_
  refine Tr.rd_cap hA fun he1 he2 => ?_
  refine Tr.enter (args := [.agg #[.slice A ms.length c], .slice B xs.length d, .slice E acts.length e]) Try.func8 Try.ntmps8 rfl rfl ?_
  refine GC.seq ?_
  refine GC.region ?_
  refine GL.box_agg rfl rfl ?_; intro g3
  refine GL.v Wag ?_
  refine GL.nil ?_
  refine GE.seq ?_
  refine GC.seq ?_
  refine GC.seq ?_
  refine GC.region ?_
  refine GL.v Wmv ?_
  refine GL.v Wln ?_
  refine GL.v Wgt ?_
  refine GL.nil ?_
  refine GE.seq ?_
  refine GC.ifs (fun h1 => ?_) (fun h1 => ?_)
  · -- T
    refine GC.seq ?_
    refine GC.region ?_
    refine GL.v Wag ?_
    refine GL.nil ?_
    refine GE.seq ?_
    refine GC.ret ?_
    refine GE.seq_ret ?_
    -- returns, path T
    refine GE.ret_tmp (L' := L) (.inl rfl) rfl rfl Wsb ?_
    exact ⟨rfl, rfl⟩
  · -- F
    refine GC.skip ?_
    refine GE.seq ?_
    refine GC.seq ?_
    refine GC.region ?_
    refine GL.v Wag ?_
    refine GL.nil ?_
    refine GE.seq ?_
    refine GC.seq ?_
    refine GC.region ?_
    refine GL.v Wlba ?_
    refine GL.v Wmv ?_
    refine GL.call rfl rfl (szGraph_spec _ _ _ _ _ (RdL.imp (by assumption) Wim) _ (by omega) (by omega)) ?_
    rintro _ _ ⟨x22, rfl, x22a, x22b, x22c, e22⟩
    rw [e22]; clear e22
    refine GL.v Wag ?_
    refine GL.nil ?_
    refine GE.seq ?_
    refine GC.seq ?_
    refine GC.seq ?_
    refine GC.region ?_
    refine GL.v Wmv ?_
    refine GL.v Wls ?_
    refine GL.nil ?_
    refine GE.seq ?_
    refine GC.ifs (fun h2 => ?_) (fun h2 => ?_)
    · -- FT
      refine GC.seq ?_
      refine GC.region ?_
      refine GL.v Wag ?_
      refine GL.nil ?_
      refine GE.seq ?_
      refine GC.ret ?_
      refine GE.seq_ret ?_
      -- returns, path FT
      refine GE.ret_tmp (L' := L) (.inl rfl) rfl rfl Wsb ?_
      exact ⟨rfl, rfl⟩
    · -- FF
      have hS := x22c (by omega)
      have hSl := hS.1
      refine GC.skip ?_
      refine GE.seq ?_
      refine GC.seq ?_
      refine GC.region ?_
      refine GL.v Wmv ?_
      refine GL.v Wmv ?_
      refine GL.callF rfl rfl (szActS_spec _ _ _ _ _ _ Wom Wom Wom) ?_
      refine GL.v Wag ?_
      refine GL.nil ?_
      refine GE.seq ?_
      refine GC.seq ?_
      refine GC.seq ?_
      refine GC.region ?_
      refine GL.v Wmv ?_
      refine GL.v Wls ?_
      refine GL.nil ?_
      refine GE.seq ?_
      refine GC.ifs (fun h3 => ?_) (fun h3 => ?_)
      · -- FFT
        refine GC.seq ?_
        refine GC.region ?_
        refine GL.v Wag ?_
        refine GL.nil ?_
        refine GE.seq ?_
        refine GC.ret ?_
        refine GE.seq_ret ?_
        -- returns, path FFT
        refine GE.ret_tmp (L' := L) (.inl rfl) rfl rfl Wsb ?_
        exact ⟨rfl, rfl⟩
      · -- FFF
        have hal : acts.length ≤ 1048576 := by split at h3 <;> omega
        have hten := aftL_ten (gr ms) xs acts
        obtain ⟨R, hRes⟩ : ∃ r, aftL (gr ms) xs acts = r := ⟨_, rfl⟩
        rw [hRes] at hten
        refine GC.skip ?_
        refine GE.seq ?_
        refine GC.seq ?_
        refine GC.region ?_
        refine GL.v Wlba ?_
        refine GL.call rfl rfl (toGraph_spec _ _ _ _ _ (RdL.imp (by assumption) Wim) (by assumption)) ?_
        rintro _ _ ⟨B31, ns31, hgr31, rfl, rfl⟩
        have hS31 := SizeG.gr (by assumption) hgr31
        refine GL.v Wmv ?_
        refine GL.call rfl rfl (toIntS_spec _ _ _ _ _ Wrd Wom) ?_
        rintro _ _ ⟨B33, rfl, rfl⟩
        refine GL.v Wmv ?_
        refine GL.call rfl rfl (toActS_spec _ _ _ _ _ Wrd Wom) ?_
        rintro _ _ ⟨B35, rfl, rfl⟩
        refine GL.call rfl rfl (sCellsAfter_spec _ _ _ _ _ (by first | assumption | exact RdG.imp (by assumption) Wim | exact RdG.of_pick Wpk Wpk) _ _ _ Wrd _ _ _ Wrd (by assumption) Wom Wom) ?_
        rintro _ _ ⟨B36, d36, rfl, rfl⟩
        rw [hgr31, hRes]
        refine GL.v Wag ?_
        refine GL.nil ?_
        refine GE.seq ?_
        refine GC.seq ?_
        refine GC.region ?_
        refine GL.v Wlba ?_
        refine GL.call rfl rfl (toGraph_spec _ _ _ _ _ (RdL.imp (by assumption) Wim) (by assumption)) ?_
        rintro _ _ ⟨B38, ns38, hgr38, rfl, rfl⟩
        have hS38 := SizeG.gr (by assumption) hgr38
        refine GL.alloc rfl ?_; intro g9
        refine GL.store_varN rfl rfl rfl Wpk (by rfl) (by rfl) (by rfl) ?_
        refine GL.nil ?_
        refine GE.seq ?_
        refine GC.seq ?_
        refine GC.region ?_
        refine GL.v Wmv ?_
        refine GL.call rfl rfl (toIntS_spec _ _ _ _ _ Wrd Wom) ?_
        rintro _ _ ⟨B40, rfl, rfl⟩
        refine GL.v Wag ?_
        refine GL.nil ?_
        refine GE.seq ?_
        refine GC.seq ?_
        refine GC.region ?_
        refine GL.v Wmv ?_
        refine GL.call rfl rfl (toActS_spec _ _ _ _ _ Wrd Wom) ?_
        rintro _ _ ⟨B42, rfl, rfl⟩
        refine GL.v Wag ?_
        refine GL.nil ?_
        refine GE.seq ?_
        refine GC.seq ?_
        refine GC.region ?_
        refine GL.v Wlba ?_
        refine GL.v Wmv ?_
        refine GL.v Wmv ?_
        refine GL.call rfl rfl (iCellsAfter_spec _ _ _ _ _ (by first | assumption | exact RdG.imp (by assumption) Wim | exact RdG.of_pick Wpk Wpk) _ _ _ Wrd _ _ _ Wrd (by first | omega | exact SizeG.le (by assumption)) Wom Wom) ?_
        rintro _ _ ⟨B46, d46, rfl, rfl⟩
        rw [hgr38, hRes]
        refine GL.v Wag ?_
        refine GL.nil ?_
        refine GE.seq ?_
        refine GC.seq ?_
        refine GC.seq ?_
        refine GC.region ?_
        refine GL.v Wmv ?_
        refine GL.v Wmv ?_
        refine GL.callF rfl rfl (eqIntS_spec _ _ _ _ _ Wrd _ _ _ Wrd Wom) ?_
        refine GL.v Wnt ?_
        refine GL.nil ?_
        refine GE.seq ?_
        refine GC.ifs (fun h4 => ?_) (fun h4 => ?_)
        · -- FFFT
          exact absurd rfl h4
        · -- FFFF
          refine GC.skip ?_
          refine GE.seq ?_
          refine GC.seq ?_
          refine GC.seq ?_
          refine GC.region_any #[false, false, true, true, false] mixed ?_
          refine GA.read 0 #[false, true, true, false, false] rfl (by exact Wlba) rfl rfl (by kernel_rfl) rfl (by kernel_rfl) (by kernel_rfl) (fun _ _ _ h => h) ?_
          refine GA.read 1 #[true, false, false, false, false] rfl (by exact Wlba) rfl rfl (by kernel_rfl) rfl (by kernel_rfl) (by kernel_rfl) (fun _ _ _ h => h) ?_
          refine GA.branch (rs := [2]) (JOk.live (by exact Wlba) (JOk.live (by exact Wlba) JOk.nil)) (by kernel_rfl) (by simp) ?_
          refine GAs.cons rfl ?_ ?_
          · -- FFFF op 2
            refine GL.call rfl rfl (toGraph_spec _ _ _ _ _ (RdL.imp (by assumption) Wim) (by assumption)) ?_
            rintro _ _ ⟨B53, ns53, hgr53, rfl, rfl⟩
            have hS53 := SizeG.gr (by assumption) hgr53
            refine GL.nil ?_
            refine GE.any ?_
            refine GA.branch (rs := [3]) (JOk.dead (by kernel_rfl) (JOk.live (by exact Wlba) JOk.nil)) (by kernel_rfl) (by simp) ?_
            refine GAs.cons rfl ?_ ?_
            · -- FFFF op 3
              refine GL.callF rfl rfl (eqGraph_spec _ _ _ _ _ (by first | assumption | exact RdG.imp (by assumption) Wim | exact RdG.of_pick Wpk Wpk) _ _ _ (by first | assumption | exact RdG.imp (by assumption) Wim | exact RdG.of_pick Wpk Wpk) (by assumption)) ?_
              refine GL.nil ?_
              refine GE.any ?_
              refine GA.take 4 #[true, true, true, true, false] rfl (by exact Ev.not rfl) rfl rfl (by kernel_rfl) rfl (by kernel_rfl) (by kernel_rfl) (fun _ _ _ h => h) ?_
              refine GA.done (JOk.dead (by kernel_rfl) (JOk.dead (by kernel_rfl) JOk.nil)) (by kernel_rfl) ?_
              refine GE.seq ?_
              refine GC.ifs (fun h5 => ?_) (fun h5 => ?_)
              · -- FFFFT
                exact absurd (hgr38.trans hgr53.symm) h5
              · -- FFFFF
                refine GC.skip ?_
                refine GE.seq ?_
                refine GC.seq ?_
                refine GC.seq ?_
                refine GC.region ?_
                refine GL.v Wmv ?_
                refine GL.v Wmv ?_
                refine GL.call rfl rfl (toIntS_spec _ _ _ _ _ Wrd Wom) ?_
                rintro _ _ ⟨B58, rfl, rfl⟩
                refine GL.callF rfl rfl (eqIntS_spec _ _ _ _ _ Wrd _ _ _ Wrd Wom) ?_
                refine GL.v Wnt ?_
                refine GL.nil ?_
                refine GE.seq ?_
                refine GC.ifs (fun h6 => ?_) (fun h6 => ?_)
                · -- FFFFFT
                  exact absurd rfl h6
                · -- FFFFFF
                  refine GC.skip ?_
                  refine GE.seq ?_
                  refine GC.seq ?_
                  refine GC.seq ?_
                  refine GC.region ?_
                  refine GL.v Wmv ?_
                  refine GL.v Wmv ?_
                  refine GL.call rfl rfl (toActS_spec _ _ _ _ _ Wrd Wom) ?_
                  rintro _ _ ⟨B63, rfl, rfl⟩
                  refine GL.callF rfl rfl (eqActS_spec _ _ _ _ _ Wrd _ _ _ Wrd Wom) ?_
                  refine GL.v Wnt ?_
                  refine GL.nil ?_
                  refine GE.seq ?_
                  refine GC.ifs (fun h7 => ?_) (fun h7 => ?_)
                  · -- FFFFFFT
                    exact absurd rfl h7
                  · -- FFFFFFF
                    refine GC.skip ?_
                    refine GE.seq ?_
                    refine GC.seq ?_
                    refine GC.region ?_
                    refine GL.v Wag ?_
                    refine GL.nil ?_
                    refine GE.seq ?_
                    refine GC.seq ?_
                    refine GC.region ?_
                    refine GL.v Wlba ?_
                    refine GL.v Wmv ?_
                    refine GL.front (A := partsA ns38) Wpk ?_
                    refine GL.front (A := row nodeE B38 ns38.length ns38) Wpk ?_
                    refine GL.call rfl rfl (markGraph_spec w0 _ B38 ns38.length ns38 hS38 _ (by decide) (by decide)) ?_
                    rintro _ _ ⟨k68, ns68, qs68, rfl, k68a, k68b, rfl⟩
                    refine GL.v Wag ?_
                    refine GL.nil ?_
                    refine GE.seq ?_
                    refine GC.seq ?_
                    refine GC.region ?_
                    refine GL.v Wmv ?_
                    refine GL.v Wmv ?_
                    refine GL.callP rfl rfl Wpk (markIntS_spec _ _ _ _ _ _ Wom Wom Wom) ?_
                    rintro _ _ ⟨rfl, rfl⟩
                    refine GL.v Wag ?_
                    refine GL.nil ?_
                    refine GE.seq ?_
                    refine GC.seq ?_
                    refine GC.region ?_
                    refine GL.v Wmv ?_
                    refine GL.v Wmv ?_
                    refine GL.callP rfl rfl Wpk (markActS_spec _ _ _ _ acts _ Wom Wom Wom) ?_
                    rintro _ _ ⟨rfl, rfl⟩
                    refine GL.v Wag ?_
                    refine GL.nil ?_
                    refine GE.seq ?_
                    refine GC.seq ?_
                    refine GC.seq ?_
                    refine GC.region ?_
                    refine GL.v Wmv ?_
                    refine GL.v Wls ?_
                    refine GL.v Wmv ?_
                    refine GL.gs (fun h8 => ?_) (fun h8 => ?_)
                    · -- FFFFFFFt
                      omega
                    · -- FFFFFFFf
                      refine GL.want rfl rfl ?_
                      refine GL.v Wmv ?_
                      refine GL.want rfl rfl ?_
                      refine GL.v Wmv ?_
                      refine GL.want rfl rfl ?_
                      refine GL.callF rfl rfl (eqIntS_spec _ _ _ _ _ Wrd _ _ _ Wrd Wom) ?_
                      refine GL.want rfl rfl ?_
                      refine GL.v Wnt ?_
                      refine GL.v Wpf ?_
                      refine GL.nil ?_
                      refine GE.seq ?_
                      refine GC.ifs (fun h9 => ?_) (fun h9 => ?_)
                      · -- FFFFFFFfT
                        exact absurd rfl h9
                      · -- FFFFFFFfF
                        refine GC.skip ?_
                        refine GE.seq ?_
                        refine GC.seq ?_
                        refine GC.region ?_
                        refine GL.v Wag ?_
                        refine GL.nil ?_
                        refine GE.seq ?_
                        refine GC.seq ?_
                        refine GC.region ?_
                        refine GL.v Wmv ?_
                        refine GL.v Wmv ?_
                        refine GL.callP rfl rfl Wpk (markIntS_spec _ _ _ _ _ _ Wom Wom Wom) ?_
                        rintro _ _ ⟨rfl, rfl⟩
                        refine GL.v Wag ?_
                        refine GL.nil ?_
                        refine GE.seq ?_
                        refine GC.seq ?_
                        refine GC.region ?_
                        refine GL.v Wag ?_
                        refine GL.nil ?_
                        refine GE.seq ?_
                        refine GC.seq ?_
                        refine GC.region ?_
                        refine GL.v Wmv ?_
                        refine GL.v Wmv ?_
                        refine GL.callF rfl rfl (heldIntS_spec _ _ _ _ _ _ Wrd Wom Wom Wom) ?_
                        refine GL.v Wag ?_
                        refine GL.nil ?_
                        refine GE.seq ?_
                        refine GC.seq ?_
                        refine GC.seq ?_
                        refine GC.region ?_
                        refine GL.v Wmv ?_
                        refine GL.v Wls ?_
                        refine GL.nil ?_
                        refine GE.seq ?_
                        refine GC.ifs (fun h10 => ?_) (fun h10 => ?_)
                        · -- FFFFFFFfFT
                          omega
                        · -- FFFFFFFfFF
                          refine GC.skip ?_
                          refine GE.seq ?_
                          refine GC.seq ?_
                          refine GC.seq ?_
                          refine GC.region ?_
                          refine GL.v Wmv ?_
                          refine GL.v Wmv ?_
                          refine GL.v Wnq ?_
                          refine GL.nil ?_
                          refine GE.seq ?_
                          refine GC.ifs (fun h11 => ?_) (fun h11 => ?_)
                          · -- FFFFFFFfFFT
                            exact absurd rfl h11
                          · -- FFFFFFFfFFF
                            refine GC.skip ?_
                            refine GE.seq ?_
                            refine GC.seq ?_
                            refine GC.region ?_
                            refine GL.v Wlba ?_
                            refine GL.call rfl rfl (toGraph_spec _ _ _ _ _ (RdL.imp (by assumption) Wim) (by assumption)) ?_
                            rintro _ _ ⟨B95, ns95, hgr95, rfl, rfl⟩
                            have hS95 := SizeG.gr (by assumption) hgr95
                            refine GL.v Wmv ?_
                            refine GL.call rfl rfl (toIntS_spec _ _ _ _ _ Wrd Wom) ?_
                            rintro _ _ ⟨B97, rfl, rfl⟩
                            refine GL.v Wmv ?_
                            refine GL.call rfl rfl (toActS_spec _ _ _ _ _ Wrd Wom) ?_
                            rintro _ _ ⟨B99, rfl, rfl⟩
                            refine GL.call rfl rfl (iCellsAfter_spec _ _ _ _ _ (by first | assumption | exact RdG.imp (by assumption) Wim | exact RdG.of_pick Wpk Wpk) _ _ _ Wrd _ _ _ Wrd (by first | omega | exact SizeG.le (by assumption)) Wom Wom) ?_
                            rintro _ _ ⟨B100, d100, rfl, rfl⟩
                            rw [hgr95, hRes]
                            refine GL.v Wag ?_
                            refine GL.nil ?_
                            refine GE.seq ?_
                            refine GC.seq ?_
                            refine GC.seq ?_
                            refine GC.region ?_
                            refine GL.v Wmv ?_
                            refine GL.v Wmv ?_
                            refine GL.callF rfl rfl (eqIntS_spec _ _ _ _ _ Wrd _ _ _ Wrd Wom) ?_
                            refine GL.v Wnt ?_
                            refine GL.nil ?_
                            refine GE.seq ?_
                            refine GC.ifs (fun h12 => ?_) (fun h12 => ?_)
                            · -- FFFFFFFfFFFT
                              exact absurd rfl h12
                            · -- FFFFFFFfFFFF
                              refine GC.skip ?_
                              refine GE.seq ?_
                              refine GC.seq ?_
                              refine GC.region ?_
                              refine GL.v Wag ?_
                              refine GL.nil ?_
                              refine GE.seq ?_
                              refine GC.seq ?_
                              refine GC.region ?_
                              refine GL.v Wmv ?_
                              refine GL.v Wmv ?_
                              refine GL.callF rfl rfl (heldIntS_spec _ _ _ _ _ _ Wrd Wom Wom Wom) ?_
                              refine GL.v Wag ?_
                              refine GL.nil ?_
                              refine GE.seq ?_
                              refine GC.seq ?_
                              refine GC.seq ?_
                              refine GC.region ?_
                              refine GL.v Wmv ?_
                              refine GL.v Wls ?_
                              refine GL.nil ?_
                              refine GE.seq ?_
                              refine GC.ifs (fun h13 => ?_) (fun h13 => ?_)
                              · -- FFFFFFFfFFFFT
                                omega
                              · -- FFFFFFFfFFFFF
                                refine GC.skip ?_
                                refine GE.seq ?_
                                refine GC.seq ?_
                                refine GC.seq ?_
                                refine GC.region ?_
                                refine GL.v Wmv ?_
                                refine GL.v Wmv ?_
                                refine GL.v Wnq ?_
                                refine GL.nil ?_
                                refine GE.seq ?_
                                refine GC.ifs (fun h14 => ?_) (fun h14 => ?_)
                                · -- FFFFFFFfFFFFFT
                                  exact absurd rfl h14
                                · -- FFFFFFFfFFFFFF
                                  refine GC.skip ?_
                                  refine GE.seq ?_
                                  refine GC.seq ?_
                                  refine GC.region ?_
                                  refine GL.v Wag ?_
                                  refine GL.nil ?_
                                  refine GE.seq ?_
                                  refine GC.ret ?_
                                  -- returns, path FFFFFFFfFFFFFF
                                  refine GE.ret_tmp (L' := L) (.inl rfl) rfl rfl Wsb ?_
                                  exact ⟨rfl, rfl⟩
            exact GAs.nil
          exact GAs.nil
theorem fnExactCellsAfter_calls {H : Type} {enc : TypeId × Value → H} {W : World} {base : Nat} {args : Array Value} {ds : List (DataW H)} {p : List MemPlace} (hval : ∀ (j : Nat) t v, Try.f8.params[j]? = some t → args[j]? = some v → Value.okWide Try.prog W .any base t v)
    (hA : DataW.TrodAll enc Try.prog W 0 (fun _ => true) true Try.f8.params.toList args.toList ds p) : Tr Try.prog 8 args W [] (fun v L' => v = .bool true ∧ L' = []) := by
  rw [Try.params8] at hA hval
  obtain ⟨v0, vs0, d0, ds0, p0, q0, hargs, rfl, rfl, h0, r0⟩ := trodAll_cons hA
  obtain ⟨v1, vs1, d1, ds1, p1, q1, rfl, rfl, rfl, h1, r1⟩ := trodAll_cons r0
  obtain ⟨v2, vs2, d2, ds2, p2, q2, rfl, rfl, rfl, h2, r2⟩ := trodAll_cons r1
  obtain ⟨rfl, rfl, rfl⟩ := trodAll_nil r2
  obtain rfl : args = #[v0, v1, v2] := by cases args; simp_all
  obtain ⟨A, c, ms, rfl, hG⟩ := arg_graph (hval 0 _ v0 rfl rfl) h0
  obtain ⟨B, d, xs, rfl, hX, _⟩ := arg_sl (E := intE) (st := 47) (by kernel_rfl) (opens_ints W) (hval 1 _ v1 rfl rfl) h1
  obtain ⟨E, e, acts, rfl, hA, _⟩ := arg_sl (E := lactE) (st := 34) (by kernel_rfl) (opens_lact W) (hval 2 _ v2 rfl rfl) h2
  exact FnExactCellsAfter_spec W [] A c ms hG B d xs hX E e acts hA
theorem fnExactCellsAfter_lifted (os : Os) (started : os.Started) (H : Type) (enc : TypeId × Value → H) :
    ReturnsInHanded {} Try.checked os 8 .any (Ytllepoepfkobfaa.Rows.fnExactCellsAfterSpec.pre6 enc Try.prog Try.f8 Ytllepoepfkobfaa.Rows.fnExactCellsAfterRow.domain false) (Ytllepoepfkobfaa.Rows.fnExactCellsAfterSpec.post enc Try.prog Try.f8 false true false false) := by
  refine returnsInHanded_of_change (C := Try.checked) own started (by kernel_rfl) Try.func8
    (ChangeSpec.witness6 (enc := enc) (C := Try.checked) false ⟨#[], #[.agg #[.slice none 0 0], .slice none 0 0, .slice none 0 0], []⟩ 8 (by kernel_rfl) (by kernel_rfl) (by kernel_rfl) (by kernel_rfl)) ?_
  intro W base args ds gs before hval0 hW hcnd _
  have hval : ∀ (j : Nat) t v, Try.f8.params[j]? = some t → args[j]? = some v → Value.okWide Try.prog W .any base t v := hval0
  have hW' := hW
  obtain ⟨p, q, hA0, _⟩ := hW
  have hA : DataW.TrodAll enc Try.prog W 0 (fun _ => true) true Try.f8.params.toList args.toList ds p := hA0
  have hlen : ds.length = Try.f8.params.toList.length := trodAll_len hA
  rw [Try.params8] at hlen
  refine ((fnExactCellsAfter_calls hval hA).go W (St.start W)).mono ?_
  rintro e W' ⟨v, L', ⟨rfl, rfl⟩, rfl, hs⟩
  exact ⟨_, rfl, law_post kids full (by rw [Try.params8]; decide) hW' rfl (fun hg => by subst hg; match ds, hlen with | [_, _, _], _ => exact bool_res) (fun hg => by subst hg; match ds, hlen with | [_, _, _], _ => rfl) (fun hg => by subst hg; match ds, hlen with | [_, _, _], _ => rfl) hs.below⟩
theorem fnExactCellsAfter_over : Ytllepoepfkobfaa.Rows.fnExactCellsAfterRow.holds Try.pinned (OpenSpec.ofChange Ytllepoepfkobfaa.Rows.fnExactCellsAfterSpec) :=
  OpenClaim.holds_of_wide 8 Try.f8 rfl rfl rfl rfl rfl rfl rfl ⟨rfl, rfl, rfl, rfl, rfl⟩ rfl rfl rfl rfl rfl (by kernel_rfl) Try.func8 (by kernel_rfl)
    (of_decide_eq_true (by kernel_rfl)) (by unfold Func.isWrapper; first | (rw [if_pos (by decide +kernel)]; kernel_rfl) | (rw [if_neg (by decide +kernel)]; exact ⟨rfl, rfl⟩))
    (fun os started H enc _ => fnExactCellsAfter_lifted os started H enc)
end SG
namespace Go.Proofs.Ytllepoepfkobfaa
theorem fnExactCellsAfter_proved : Rows.FnExactCellsAfterSaid := SG.fnExactCellsAfter_over
end Go.Proofs.Ytllepoepfkobfaa
#print axioms Go.Proofs.Ytllepoepfkobfaa.fnExactCellsAfter_proved
