/- The law FnExactStartLazy holds for every input. -/
import Derived.Test.YtllepoepfkobfaaD9
import Derived.Test.YtllepoepfkobfaaD23
import Derived.Test.YtllepoepfkobfaaD60
import Derived.Test.YtllepoepfkobfaaD61
import Derived.Test.YtllepoepfkobfaaRows
namespace SG
open Go Go.RowKit Go.Proofs Go.Proofs.Ytllepoepfkobfaa Go.ChangeShapes Go.WideShapes Go.Deep
set_option linter.unusedVariables false
set_option linter.unusedSimpArgs false
set_option maxRecDepth 100000
theorem FnExactStartLazy_spec (w0 : World) (L : List Asn) (A : Option Addr) (c : Nat) (ms : List NdM) (hG : RdL w0 L A c ms) (B : Option Addr) (d : Nat) (xs : List Int) (hX : Rd w0 L intE B d xs) :
    Tr Try.prog 11 #[.agg #[.slice A ms.length c], .slice B xs.length d] w0 L (fun v L' => v = .bool true ∧ L' = L) := by
  refine Tr.rd_cap hX fun hd1 hd2 => ?_
  refine Tr.enter (args := [.agg #[.slice A ms.length c], .slice B xs.length d]) Try.func11 Try.ntmps11 rfl rfl ?_
  refine GC.seq ?_
  refine GC.region ?_
  refine GL.box_agg rfl rfl ?_; intro g2
  refine GL.v Wag ?_
  refine GL.nil ?_
  refine GE.seq ?_
  refine GC.seq ?_
  refine GC.seq ?_
  refine GC.region ?_
  refine GL.v Wmv ?_
  refine GL.v Wln ?_
  refine GL.v Wgt ?_
  refine GL.nil ?_
  refine GE.seq ?_
  refine GC.ifs (fun h1 => ?_) (fun h1 => ?_)
  · -- T
    refine GC.seq ?_
    refine GC.region ?_
    refine GL.v Wag ?_
    refine GL.nil ?_
    refine GE.seq ?_
    refine GC.ret ?_
    refine GE.seq_ret ?_
    -- returns, path T
    refine GE.ret_tmp (L' := L) (.inl rfl) rfl rfl Wsb ?_
    exact ⟨rfl, rfl⟩
  · -- F
    refine GC.skip ?_
    refine GE.seq ?_
    refine GC.seq ?_
    refine GC.region ?_
    refine GL.v Wag ?_
    refine GL.nil ?_
    refine GE.seq ?_
    refine GC.seq ?_
    refine GC.region ?_
    refine GL.v Wlba ?_
    refine GL.v Wmv ?_
    refine GL.call rfl rfl (szGraph_spec _ _ _ _ _ (RdL.imp (by assumption) Wim) _ (by omega) (by omega)) ?_
    rintro _ _ ⟨x19, rfl, x19a, x19b, x19c, e19⟩
    rw [e19]; clear e19
    refine GL.v Wag ?_
    refine GL.nil ?_
    refine GE.seq ?_
    refine GC.seq ?_
    refine GC.seq ?_
    refine GC.region ?_
    refine GL.v Wmv ?_
    refine GL.v Wls ?_
    refine GL.nil ?_
    refine GE.seq ?_
    refine GC.ifs (fun h2 => ?_) (fun h2 => ?_)
    · -- FT
      refine GC.seq ?_
      refine GC.region ?_
      refine GL.v Wag ?_
      refine GL.nil ?_
      refine GE.seq ?_
      refine GC.ret ?_
      refine GE.seq_ret ?_
      -- returns, path FT
      refine GE.ret_tmp (L' := L) (.inl rfl) rfl rfl Wsb ?_
      exact ⟨rfl, rfl⟩
    · -- FF
      have hS := x19c (by omega)
      have hSl := hS.1
      have hten := lazX_ten (gr ms) xs
      have hten2 := lazS_ten (gr ms) xs
      obtain ⟨RX, hRX⟩ : ∃ r, lazX (gr ms) xs = r := ⟨_, rfl⟩
      obtain ⟨RS, hRS⟩ : ∃ r, lazS (gr ms) xs = r := ⟨_, rfl⟩
      rw [hRX] at hten
      rw [hRS] at hten2
      refine GC.skip ?_
      refine GE.seq ?_
      refine GC.seq ?_
      refine GC.region ?_
      refine GL.v Wlba ?_
      refine GL.call rfl rfl (toGraph_spec _ _ _ _ _ (RdL.imp (by assumption) Wim) (by assumption)) ?_
      rintro _ _ ⟨B23, ns23, hgr23, rfl, rfl⟩
      have hS23 := SizeG.gr (by assumption) hgr23
      refine GL.v Wmv ?_
      refine GL.call rfl rfl (toIntS_spec _ _ _ _ _ Wrd Wom) ?_
      rintro _ _ ⟨B25, rfl, rfl⟩
      refine GL.call rfl rfl (sStartLazy_spec _ _ _ _ _ (by first | assumption | exact RdG.imp (by assumption) Wim | exact RdG.of_pick Wpk Wpk) _ _ _ Wrd (by assumption) Wom) ?_
      rintro _ _ ⟨X26, x26, R26, r26, ls26, S26, s26, hli26, rfl, rfl⟩
      have hZ26 := sizeLs_laz hli26
      rw [hgr23] at hli26 ⊢
      rw [hRX, hRS]
      refine GL.alloc rfl ?_; intro g6
      refine GL.store_varN rfl rfl rfl Wpk (by rfl) (by rfl) (by rfl) ?_
      refine GL.nil ?_
      refine GE.seq ?_
      refine GC.seq ?_
      refine GC.region ?_
      refine GL.v Wlba ?_
      refine GL.call rfl rfl (toGraph_spec _ _ _ _ _ (RdL.imp (by assumption) Wim) (by assumption)) ?_
      rintro _ _ ⟨B28, ns28, hgr28, rfl, rfl⟩
      have hS28 := SizeG.gr (by assumption) hgr28
      refine GL.alloc rfl ?_; intro g7
      refine GL.store_varN rfl rfl rfl Wpk (by rfl) (by rfl) (by rfl) ?_
      refine GL.nil ?_
      refine GE.seq ?_
      refine GC.seq ?_
      refine GC.region ?_
      refine GL.v Wmv ?_
      refine GL.call rfl rfl (toIntS_spec _ _ _ _ _ Wrd Wom) ?_
      rintro _ _ ⟨B30, rfl, rfl⟩
      refine GL.v Wag ?_
      refine GL.nil ?_
      refine GE.seq ?_
      refine GC.seq ?_
      refine GC.region ?_
      refine GL.v Wlba ?_
      refine GL.v Wmv ?_
      refine GL.call rfl rfl (iStartLazy_spec _ _ _ _ _ (by first | assumption | exact RdG.imp (by assumption) Wim | exact RdG.of_pick Wpk Wpk) _ _ _ Wrd (by first | omega | exact SizeG.le (by assumption)) Wom) ?_
      rintro _ _ ⟨X33, x33, R33, r33, ls33, S33, s33, hli33, rfl, rfl⟩
      have hZ33 := sizeLs_laz hli33
      rw [hgr28] at hli33 ⊢
      rw [hRX, hRS]
      refine GL.alloc rfl ?_; intro g9
      refine GL.store_varN rfl rfl rfl Wpk (by rfl) (by rfl) (by rfl) ?_
      refine GL.nil ?_
      refine GE.seq ?_
      refine GC.seq ?_
      refine GC.seq ?_
      refine GC.region ?_
      refine GL.v Wlba ?_
      refine GL.v Wlba ?_
      refine GL.callF rfl rfl (eqLazy_spec _ _ _ _ _ Wrd _ _ _ (by first | assumption | exact RdLs.imp (by assumption) Wim | exact RdLs.of_pick Wpk Wpk) _ _ _ Wrd _ _ _ Wrd _ _ _ (by first | assumption | exact RdLs.imp (by assumption) Wim | exact RdLs.of_pick Wpk Wpk) _ _ _ Wrd Wom (by assumption) Wom) ?_
      refine GL.v Wnt ?_
      refine GL.nil ?_
      refine GE.seq ?_
      refine GC.ifs (fun h3 => ?_) (fun h3 => ?_)
      · -- FFT
        exact absurd ⟨rfl, hli33.trans hli26.symm, rfl⟩ h3
      · -- FFF
        refine GC.skip ?_
        refine GE.seq ?_
        refine GC.seq ?_
        refine GC.seq ?_
        refine GC.region_any #[false, false, true, true, false] mixed ?_
        refine GA.read 0 #[false, true, true, false, false] rfl (by exact Wlba) rfl rfl (by kernel_rfl) rfl (by kernel_rfl) (by kernel_rfl) (fun _ _ _ h => h) ?_
        refine GA.read 1 #[true, false, false, false, false] rfl (by exact Wlba) rfl rfl (by kernel_rfl) rfl (by kernel_rfl) (by kernel_rfl) (fun _ _ _ h => h) ?_
        refine GA.branch (rs := [2]) (JOk.live (by exact Wlba) (JOk.live (by exact Wlba) JOk.nil)) (by kernel_rfl) (by simp) ?_
        refine GAs.cons rfl ?_ ?_
        · -- FFF op 2
          refine GL.call rfl rfl (toGraph_spec _ _ _ _ _ (RdL.imp (by assumption) Wim) (by assumption)) ?_
          rintro _ _ ⟨B40, ns40, hgr40, rfl, rfl⟩
          have hS40 := SizeG.gr (by assumption) hgr40
          refine GL.nil ?_
          refine GE.any ?_
          refine GA.branch (rs := [3]) (JOk.dead (by kernel_rfl) (JOk.live (by exact Wlba) JOk.nil)) (by kernel_rfl) (by simp) ?_
          refine GAs.cons rfl ?_ ?_
          · -- FFF op 3
            refine GL.callF rfl rfl (eqGraph_spec _ _ _ _ _ (by first | assumption | exact RdG.imp (by assumption) Wim | exact RdG.of_pick Wpk Wpk) _ _ _ (by first | assumption | exact RdG.imp (by assumption) Wim | exact RdG.of_pick Wpk Wpk) (by assumption)) ?_
            refine GL.nil ?_
            refine GE.any ?_
            refine GA.take 4 #[true, true, true, true, false] rfl (by exact Ev.not rfl) rfl rfl (by kernel_rfl) rfl (by kernel_rfl) (by kernel_rfl) (fun _ _ _ h => h) ?_
            refine GA.done (JOk.dead (by kernel_rfl) (JOk.dead (by kernel_rfl) JOk.nil)) (by kernel_rfl) ?_
            refine GE.seq ?_
            refine GC.ifs (fun h4 => ?_) (fun h4 => ?_)
            · -- FFFT
              exact absurd (hgr28.trans hgr40.symm) h4
            · -- FFFF
              refine GC.skip ?_
              refine GE.seq ?_
              refine GC.seq ?_
              refine GC.seq ?_
              refine GC.region ?_
              refine GL.v Wmv ?_
              refine GL.v Wmv ?_
              refine GL.call rfl rfl (toIntS_spec _ _ _ _ _ Wrd Wom) ?_
              rintro _ _ ⟨B45, rfl, rfl⟩
              refine GL.callF rfl rfl (eqIntS_spec _ _ _ _ _ Wrd _ _ _ Wrd Wom) ?_
              refine GL.v Wnt ?_
              refine GL.nil ?_
              refine GE.seq ?_
              refine GC.ifs (fun h5 => ?_) (fun h5 => ?_)
              · -- FFFFT
                exact absurd rfl h5
              · -- FFFFF
                refine GC.skip ?_
                refine GE.seq ?_
                refine GC.seq ?_
                refine GC.region ?_
                refine GL.v Wag ?_
                refine GL.nil ?_
                refine GE.seq ?_
                refine GC.seq ?_
                refine GC.region ?_
                refine GL.v Wlba ?_
                refine GL.v Wmv ?_
                refine GL.front (A := partsA ns28) Wpk ?_
                refine GL.front (A := row nodeE B28 ns28.length ns28) Wpk ?_
                refine GL.call rfl rfl (markGraph_spec w0 _ B28 ns28.length ns28 hS28 _ (by decide) (by decide)) ?_
                rintro _ _ ⟨k50, ns50, qs50, rfl, k50a, k50b, rfl⟩
                refine GL.v Wag ?_
                refine GL.nil ?_
                refine GE.seq ?_
                refine GC.seq ?_
                refine GC.region ?_
                refine GL.v Wmv ?_
                refine GL.v Wmv ?_
                refine GL.callP rfl rfl Wpk (markIntS_spec _ _ _ _ _ _ Wom Wom Wom) ?_
                rintro _ _ ⟨rfl, rfl⟩
                refine GL.v Wag ?_
                refine GL.nil ?_
                refine GE.seq ?_
                refine GC.seq ?_
                refine GC.seq ?_
                refine GC.region ?_
                refine GL.v Wmv ?_
                refine GL.v Wls ?_
                refine GL.v Wmv ?_
                refine GL.gs (fun h6 => ?_) (fun h6 => ?_)
                · -- FFFFFt
                  omega
                · -- FFFFFf
                  refine GL.want rfl rfl ?_
                  refine GL.v Wlba ?_
                  refine GL.want rfl rfl ?_
                  refine GL.v Wlba ?_
                  refine GL.want rfl rfl ?_
                  refine GL.callF rfl rfl (eqLazy_spec _ _ _ _ _ Wrd _ _ _ (by first | assumption | exact RdLs.imp (by assumption) Wim | exact RdLs.of_pick Wpk Wpk) _ _ _ Wrd _ _ _ Wrd _ _ _ (by first | assumption | exact RdLs.imp (by assumption) Wim | exact RdLs.of_pick Wpk Wpk) _ _ _ Wrd Wom (by assumption) Wom) ?_
                  refine GL.want rfl rfl ?_
                  refine GL.v Wnt ?_
                  refine GL.v Wpf ?_
                  refine GL.nil ?_
                  refine GE.seq ?_
                  refine GC.ifs (fun h7 => ?_) (fun h7 => ?_)
                  · -- FFFFFfT
                    exact absurd ⟨rfl, hli33.trans hli26.symm, rfl⟩ h7
                  · -- FFFFFfF
                    refine GC.skip ?_
                    refine GE.seq ?_
                    refine GC.seq ?_
                    refine GC.region ?_
                    refine GL.v Wag ?_
                    refine GL.nil ?_
                    refine GE.seq ?_
                    refine GC.seq ?_
                    refine GC.region ?_
                    refine GL.v Wlba ?_
                    refine GL.v Wmv ?_
                    refine GL.front (A := row intE S33 s33 RS) Wpk ?_
                    refine GL.front (A := rowsA ls33) Wpk ?_
                    refine GL.front (A := row slE R33 r33 ls33) Wpk ?_
                    refine GL.front (A := row intE X33 x33 RX) Wpk ?_
                    refine GL.call rfl rfl (markLazy_spec w0 _ X33 _ RX R33 _ ls33 S33 _ RS _ (by decide) (by decide) Wom hZ33 Wom) ?_
                    rintro _ _ ⟨rfl, rfl⟩
                    have hkb := kAt_bound (k := 1 + RX.length) hZ33 ls33.length (Nat.le_refl _)
                    have hzl := hZ33.1
                    refine GL.v Wag ?_
                    refine GL.nil ?_
                    refine GE.seq ?_
                    refine GC.seq ?_
                    refine GC.region ?_
                    refine GL.v Wag ?_
                    refine GL.nil ?_
                    refine GE.seq ?_
                    refine GC.seq ?_
                    refine GC.region ?_
                    refine GL.v Wlba ?_
                    refine GL.v Wmv ?_
                    refine GL.callF rfl rfl (heldLazy_spec _ _ _ _ _ _ _ _ ls33 _ _ _ _ (Rd.of_pick Wpk) (RdLs.of_pick Wpk Wpk) (Rd.of_pick Wpk) rfl (by decide) (by decide) Wom hZ33 Wom) ?_
                    refine GL.v Wag ?_
                    refine GL.nil ?_
                    refine GE.seq ?_
                    refine GC.seq ?_
                    refine GC.seq ?_
                    refine GC.region ?_
                    refine GL.v Wmv ?_
                    refine GL.v Wls ?_
                    refine GL.nil ?_
                    refine GE.seq ?_
                    refine GC.ifs (fun h8 => ?_) (fun h8 => ?_)
                    · -- FFFFFfFT
                      omega
                    · -- FFFFFfFF
                      refine GC.skip ?_
                      refine GE.seq ?_
                      refine GC.seq ?_
                      refine GC.seq ?_
                      refine GC.region ?_
                      refine GL.v Wmv ?_
                      refine GL.v Wmv ?_
                      refine GL.v Wnq ?_
                      refine GL.nil ?_
                      refine GE.seq ?_
                      refine GC.ifs (fun h9 => ?_) (fun h9 => ?_)
                      · -- FFFFFfFFT
                        exact absurd rfl h9
                      · -- FFFFFfFFF
                        refine GC.skip ?_
                        refine GE.seq ?_
                        refine GC.seq ?_
                        refine GC.region ?_
                        refine GL.v Wlba ?_
                        refine GL.call rfl rfl (toGraph_spec _ _ _ _ _ (RdL.imp (by assumption) Wim) (by assumption)) ?_
                        rintro _ _ ⟨B74, ns74, hgr74, rfl, rfl⟩
                        have hS74 := SizeG.gr (by assumption) hgr74
                        refine GL.v Wmv ?_
                        refine GL.call rfl rfl (toIntS_spec _ _ _ _ _ Wrd Wom) ?_
                        rintro _ _ ⟨B76, rfl, rfl⟩
                        refine GL.call rfl rfl (iStartLazy_spec _ _ _ _ _ (by first | assumption | exact RdG.imp (by assumption) Wim | exact RdG.of_pick Wpk Wpk) _ _ _ Wrd (by first | omega | exact SizeG.le (by assumption)) Wom) ?_
                        rintro _ _ ⟨X77, x77, R77, r77, ls77, S77, s77, hli77, rfl, rfl⟩
                        have hZ77 := sizeLs_laz hli77
                        rw [hgr74] at hli77 ⊢
                        rw [hRX, hRS]
                        refine GL.alloc rfl ?_; intro g13
                        refine GL.store_varN rfl rfl rfl Wpk (by rfl) (by rfl) (by rfl) ?_
                        refine GL.nil ?_
                        refine GE.seq ?_
                        refine GC.seq ?_
                        refine GC.seq ?_
                        refine GC.region ?_
                        refine GL.v Wlba ?_
                        refine GL.v Wlba ?_
                        refine GL.callF rfl rfl (eqLazy_spec _ _ _ _ _ Wrd _ _ _ (by first | assumption | exact RdLs.imp (by assumption) Wim | exact RdLs.of_pick Wpk Wpk) _ _ _ Wrd _ _ _ Wrd _ _ _ (by first | assumption | exact RdLs.imp (by assumption) Wim | exact RdLs.of_pick Wpk Wpk) _ _ _ Wrd Wom (by assumption) Wom) ?_
                        refine GL.v Wnt ?_
                        refine GL.nil ?_
                        refine GE.seq ?_
                        refine GC.ifs (fun h10 => ?_) (fun h10 => ?_)
                        · -- FFFFFfFFFT
                          exact absurd ⟨rfl, hli77.trans hli26.symm, rfl⟩ h10
                        · -- FFFFFfFFFF
                          refine GC.skip ?_
                          refine GE.seq ?_
                          refine GC.seq ?_
                          refine GC.region ?_
                          refine GL.v Wag ?_
                          refine GL.nil ?_
                          refine GE.seq ?_
                          refine GC.seq ?_
                          refine GC.region ?_
                          refine GL.v Wlba ?_
                          refine GL.v Wmv ?_
                          refine GL.callF rfl rfl (heldLazy_spec _ _ _ _ _ _ _ _ ls33 _ _ _ _ (Rd.of_pick Wpk) (RdLs.of_pick Wpk Wpk) (Rd.of_pick Wpk) rfl (by decide) (by decide) Wom hZ33 Wom) ?_
                          refine GL.v Wag ?_
                          refine GL.nil ?_
                          refine GE.seq ?_
                          refine GC.seq ?_
                          refine GC.seq ?_
                          refine GC.region ?_
                          refine GL.v Wmv ?_
                          refine GL.v Wls ?_
                          refine GL.nil ?_
                          refine GE.seq ?_
                          refine GC.ifs (fun h11 => ?_) (fun h11 => ?_)
                          · -- FFFFFfFFFFT
                            omega
                          · -- FFFFFfFFFFF
                            refine GC.skip ?_
                            refine GE.seq ?_
                            refine GC.seq ?_
                            refine GC.seq ?_
                            refine GC.region ?_
                            refine GL.v Wmv ?_
                            refine GL.v Wmv ?_
                            refine GL.v Wnq ?_
                            refine GL.nil ?_
                            refine GE.seq ?_
                            refine GC.ifs (fun h12 => ?_) (fun h12 => ?_)
                            · -- FFFFFfFFFFFT
                              exact absurd rfl h12
                            · -- FFFFFfFFFFFF
                              refine GC.skip ?_
                              refine GE.seq ?_
                              refine GC.seq ?_
                              refine GC.region ?_
                              refine GL.v Wag ?_
                              refine GL.nil ?_
                              refine GE.seq ?_
                              refine GC.ret ?_
                              -- returns, path FFFFFfFFFFFF
                              refine GE.ret_tmp (L' := L) (.inl rfl) rfl rfl Wsb ?_
                              exact ⟨rfl, rfl⟩
          exact GAs.nil
        exact GAs.nil
theorem fnExactStartLazy_calls {H : Type} {enc : TypeId × Value → H} {W : World} {base : Nat} {args : Array Value} {ds : List (DataW H)} {p : List MemPlace} (hval : ∀ (j : Nat) t v, Try.f11.params[j]? = some t → args[j]? = some v → Value.okWide Try.prog W .any base t v)
    (hA : DataW.TrodAll enc Try.prog W 0 (fun _ => true) true Try.f11.params.toList args.toList ds p) : Tr Try.prog 11 args W [] (fun v L' => v = .bool true ∧ L' = []) := by
  rw [Try.params11] at hA hval
  obtain ⟨v0, vs0, d0, ds0, p0, q0, hargs, rfl, rfl, h0, r0⟩ := trodAll_cons hA
  obtain ⟨v1, vs1, d1, ds1, p1, q1, rfl, rfl, rfl, h1, r1⟩ := trodAll_cons r0
  obtain ⟨rfl, rfl, rfl⟩ := trodAll_nil r1
  obtain rfl : args = #[v0, v1] := by cases args; simp_all
  obtain ⟨A, c, ms, rfl, hG⟩ := arg_graph (hval 0 _ v0 rfl rfl) h0
  obtain ⟨B, d, xs, rfl, hX, _⟩ := arg_sl (E := intE) (st := 47) (by kernel_rfl) (opens_ints W) (hval 1 _ v1 rfl rfl) h1
  exact FnExactStartLazy_spec W [] A c ms hG B d xs hX
theorem fnExactStartLazy_lifted (os : Os) (started : os.Started) (H : Type) (enc : TypeId × Value → H) :
    ReturnsInHanded {} Try.checked os 11 .any (Ytllepoepfkobfaa.Rows.fnExactStartLazySpec.pre6 enc Try.prog Try.f11 Ytllepoepfkobfaa.Rows.fnExactStartLazyRow.domain false) (Ytllepoepfkobfaa.Rows.fnExactStartLazySpec.post enc Try.prog Try.f11 false true false false) := by
  refine returnsInHanded_of_change (C := Try.checked) own started (by kernel_rfl) Try.func11
    (ChangeSpec.witness6 (enc := enc) (C := Try.checked) false ⟨#[], #[.agg #[.slice none 0 0], .slice none 0 0], []⟩ 8 (by kernel_rfl) (by kernel_rfl) (by kernel_rfl) (by kernel_rfl)) ?_
  intro W base args ds gs before hval0 hW hcnd _
  have hval : ∀ (j : Nat) t v, Try.f11.params[j]? = some t → args[j]? = some v → Value.okWide Try.prog W .any base t v := hval0
  have hW' := hW
  obtain ⟨p, q, hA0, _⟩ := hW
  have hA : DataW.TrodAll enc Try.prog W 0 (fun _ => true) true Try.f11.params.toList args.toList ds p := hA0
  have hlen : ds.length = Try.f11.params.toList.length := trodAll_len hA
  rw [Try.params11] at hlen
  refine ((fnExactStartLazy_calls hval hA).go W (St.start W)).mono ?_
  rintro e W' ⟨v, L', ⟨rfl, rfl⟩, rfl, hs⟩
  exact ⟨_, rfl, law_post kids full (by rw [Try.params11]; decide) hW' rfl (fun hg => by subst hg; match ds, hlen with | [_, _], _ => exact bool_res) (fun hg => by subst hg; match ds, hlen with | [_, _], _ => rfl) (fun hg => by subst hg; match ds, hlen with | [_, _], _ => rfl) hs.below⟩
theorem fnExactStartLazy_over : Ytllepoepfkobfaa.Rows.fnExactStartLazyRow.holds Try.pinned (OpenSpec.ofChange Ytllepoepfkobfaa.Rows.fnExactStartLazySpec) :=
  OpenClaim.holds_of_wide 11 Try.f11 rfl rfl rfl rfl rfl rfl rfl ⟨rfl, rfl, rfl, rfl, rfl⟩ rfl rfl rfl rfl rfl (by kernel_rfl) Try.func11 (by kernel_rfl)
    (of_decide_eq_true (by kernel_rfl)) (by unfold Func.isWrapper; first | (rw [if_pos (by decide +kernel)]; kernel_rfl) | (rw [if_neg (by decide +kernel)]; exact ⟨rfl, rfl⟩))
    (fun os started H enc _ => fnExactStartLazy_lifted os started H enc)
end SG
namespace Go.Proofs.Ytllepoepfkobfaa
theorem fnExactStartLazy_proved : Rows.FnExactStartLazySaid := SG.fnExactStartLazy_over
end Go.Proofs.Ytllepoepfkobfaa
#print axioms Go.Proofs.Ytllepoepfkobfaa.fnExactStartLazy_proved
