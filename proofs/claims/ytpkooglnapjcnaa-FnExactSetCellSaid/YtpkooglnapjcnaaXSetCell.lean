/- The law FnExactSetCell holds for every input. -/
import Derived.Test.YtpkooglnapjcnaaD9
import Derived.Test.YtpkooglnapjcnaaD23
import Derived.Test.YtpkooglnapjcnaaD25
import Derived.Test.YtpkooglnapjcnaaRows
namespace SG
open Go Go.RowKit Go.Proofs Go.Proofs.Ytpkooglnapjcnaa Go.ChangeShapes Go.WideShapes Go.Deep
set_option linter.unusedVariables false
set_option linter.unusedSimpArgs false
set_option maxRecDepth 100000
theorem FnExactSetCell_spec (w0 : World) (L : List Asn) (A : Option Addr) (c : Nat) (ms : List NdM) (hG : RdL w0 L A c ms) (B : Option Addr) (d : Nat) (xs : List Int) (hX : Rd w0 L intE B d xs) (n : Int) (y : Int) :
    Tr Try.prog 4 #[.agg #[.slice A ms.length c], .slice B xs.length d, .int .i64 n, .int .i64 y] w0 L (fun v L' => v = .bool true ∧ L' = L) := by
  refine Tr.rd_cap hX fun hd1 hd2 => ?_
  refine Tr.enter (args := [.agg #[.slice A ms.length c], .slice B xs.length d, .int .i64 n, .int .i64 y]) Try.func4 Try.ntmps4 rfl rfl ?_
  refine GC.seq ?_
  refine GC.region ?_
  refine GL.box_agg rfl rfl ?_; intro g4
  refine GL.v Wag ?_
  refine GL.nil ?_
  refine GE.seq ?_
  refine GC.seq ?_
  refine GC.seq ?_
  refine GC.region ?_
  refine GL.v Wmv ?_
  refine GL.v Wln ?_
  refine GL.v Wgt ?_
  refine GL.nil ?_
  refine GE.seq ?_
  refine GC.ifs (fun h1 => ?_) (fun h1 => ?_)
  · -- T
    refine GC.seq ?_
    refine GC.region ?_
    refine GL.v Wag ?_
    refine GL.nil ?_
    refine GE.seq ?_
    refine GC.ret ?_
    refine GE.seq_ret ?_
    -- returns, path T
    refine GE.ret_tmp (L' := L) (.inl rfl) rfl rfl Wsb ?_
    exact ⟨rfl, rfl⟩
  · -- F
    refine GC.skip ?_
    refine GE.seq ?_
    refine GC.seq ?_
    refine GC.region ?_
    refine GL.v Wag ?_
    refine GL.nil ?_
    refine GE.seq ?_
    refine GC.seq ?_
    refine GC.region ?_
    refine GL.v Wlba ?_
    refine GL.v Wmv ?_
    refine GL.call rfl rfl (szGraph_spec _ _ _ _ _ (RdL.imp (by assumption) Wim) _ (by omega) (by omega)) ?_
    rintro _ _ ⟨x26, rfl, x26a, x26b, x26c, e26⟩
    rw [e26]; clear e26
    refine GL.v Wag ?_
    refine GL.nil ?_
    refine GE.seq ?_
    refine GC.seq ?_
    refine GC.seq ?_
    refine GC.region ?_
    refine GL.v Wmv ?_
    refine GL.v Wls ?_
    refine GL.nil ?_
    refine GE.seq ?_
    refine GC.ifs (fun h2 => ?_) (fun h2 => ?_)
    · -- FT
      refine GC.seq ?_
      refine GC.region ?_
      refine GL.v Wag ?_
      refine GL.nil ?_
      refine GE.seq ?_
      refine GC.ret ?_
      refine GE.seq_ret ?_
      -- returns, path FT
      refine GE.ret_tmp (L' := L) (.inl rfl) rfl rfl Wsb ?_
      exact ⟨rfl, rfl⟩
    · -- FF
      have hS := x26c (by omega)
      have hSl := hS.1
      have hten := setL_ten (gr ms) xs n y
      obtain ⟨R, hRes⟩ : ∃ r, setL (gr ms) xs n y = r := ⟨_, rfl⟩
      obtain ⟨rb, hOk⟩ : ∃ r, setOk (gr ms) xs n y = r := ⟨_, rfl⟩
      rw [hRes] at hten
      refine GC.skip ?_
      refine GE.seq ?_
      refine GC.seq ?_
      refine GC.region ?_
      refine GL.v Wlba ?_
      refine GL.call rfl rfl (toGraph_spec _ _ _ _ _ (RdL.imp (by assumption) Wim) (by assumption)) ?_
      rintro _ _ ⟨B31, ns31, hgr31, rfl, rfl⟩
      have hS31 := SizeG.gr (by assumption) hgr31
      refine GL.v Wmv ?_
      refine GL.call rfl rfl (toIntS_spec _ _ _ _ _ Wrd Wom) ?_
      rintro _ _ ⟨B33, rfl, rfl⟩
      refine GL.v Wmv ?_
      refine GL.v Wmv ?_
      refine GL.call rfl rfl (sSetCell_spec _ _ _ _ _ (by first | assumption | exact RdG.imp (by assumption) Wim | exact RdG.of_pick Wpk Wpk) _ _ _ Wrd (by assumption) Wom _ _) ?_
      rintro _ _ ⟨B36, d36, rfl, rfl⟩
      rw [hgr31, hRes, hOk]
      refine GL.v Wmv ?_
      refine GL.v Wxt ?_
      refine GL.v Wxt ?_
      refine GL.v Wag ?_
      refine GL.v Wag ?_
      refine GL.nil ?_
      refine GE.seq ?_
      refine GC.seq ?_
      refine GC.region ?_
      refine GL.v Wlba ?_
      refine GL.call rfl rfl (toGraph_spec _ _ _ _ _ (RdL.imp (by assumption) Wim) (by assumption)) ?_
      rintro _ _ ⟨B40, ns40, hgr40, rfl, rfl⟩
      have hS40 := SizeG.gr (by assumption) hgr40
      refine GL.alloc rfl ?_; intro g12
      refine GL.store_varN rfl rfl rfl Wpk (by rfl) (by rfl) (by rfl) ?_
      refine GL.nil ?_
      refine GE.seq ?_
      refine GC.seq ?_
      refine GC.region ?_
      refine GL.v Wmv ?_
      refine GL.call rfl rfl (toIntS_spec _ _ _ _ _ Wrd Wom) ?_
      rintro _ _ ⟨B42, rfl, rfl⟩
      refine GL.v Wag ?_
      refine GL.nil ?_
      refine GE.seq ?_
      refine GC.seq ?_
      refine GC.region ?_
      refine GL.v Wlba ?_
      refine GL.v Wmv ?_
      refine GL.v Wmv ?_
      refine GL.v Wmv ?_
      refine GL.call rfl rfl (iSetCell_spec _ _ _ _ _ (by first | assumption | exact RdG.imp (by assumption) Wim | exact RdG.of_pick Wpk Wpk) _ _ _ Wrd (by first | omega | exact SizeG.le (by assumption)) Wom _ _) ?_
      rintro _ _ ⟨B48, d48, rfl, rfl⟩
      rw [hgr40, hRes, hOk]
      refine GL.v Wmv ?_
      refine GL.v Wxt ?_
      refine GL.v Wxt ?_
      refine GL.v Wag ?_
      refine GL.v Wag ?_
      refine GL.nil ?_
      refine GE.seq ?_
      refine GC.seq ?_
      refine GC.seq ?_
      refine GC.region ?_
      refine GL.v Wmv ?_
      refine GL.v Wmv ?_
      refine GL.callF rfl rfl (eqIntS_spec _ _ _ _ _ Wrd _ _ _ Wrd Wom) ?_
      refine GL.v Wnt ?_
      refine GL.v Wmv ?_
      refine GL.gs (fun h3 => ?_) (fun h3 => ?_)
      · -- FFt
        exact absurd rfl h3
      · -- FFf
        refine GL.want rfl rfl ?_
        refine GL.v Wmv ?_
        refine GL.want rfl rfl ?_
        refine GL.v Wmv ?_
        refine GL.want rfl rfl ?_
        refine GL.v (by exact EvP.r (Ev.neq_bool rfl rfl)) ?_
        refine GL.v Wpf ?_
        refine GL.nil ?_
        refine GE.seq ?_
        refine GC.ifs (fun h4 => ?_) (fun h4 => ?_)
        · -- FFfT
          exact absurd rfl h4
        · -- FFfF
          refine GC.skip ?_
          refine GE.seq ?_
          refine GC.seq ?_
          refine GC.seq ?_
          refine GC.region_any #[false, false, true, true, false] mixed ?_
          refine GA.read 0 #[false, true, true, false, false] rfl (by exact Wlba) rfl rfl (by kernel_rfl) rfl (by kernel_rfl) (by kernel_rfl) (fun _ _ _ h => h) ?_
          refine GA.read 1 #[true, false, false, false, false] rfl (by exact Wlba) rfl rfl (by kernel_rfl) rfl (by kernel_rfl) (by kernel_rfl) (fun _ _ _ h => h) ?_
          refine GA.branch (rs := [2]) (JOk.live (by exact Wlba) (JOk.live (by exact Wlba) JOk.nil)) (by kernel_rfl) (by simp) ?_
          refine GAs.cons rfl ?_ ?_
          · -- FFfF op 2
            refine GL.call rfl rfl (toGraph_spec _ _ _ _ _ (RdL.imp (by assumption) Wim) (by assumption)) ?_
            rintro _ _ ⟨B62, ns62, hgr62, rfl, rfl⟩
            have hS62 := SizeG.gr (by assumption) hgr62
            refine GL.nil ?_
            refine GE.any ?_
            refine GA.branch (rs := [3]) (JOk.dead (by kernel_rfl) (JOk.live (by exact Wlba) JOk.nil)) (by kernel_rfl) (by simp) ?_
            refine GAs.cons rfl ?_ ?_
            · -- FFfF op 3
              refine GL.callF rfl rfl (eqGraph_spec _ _ _ _ _ (by first | assumption | exact RdG.imp (by assumption) Wim | exact RdG.of_pick Wpk Wpk) _ _ _ (by first | assumption | exact RdG.imp (by assumption) Wim | exact RdG.of_pick Wpk Wpk) (by assumption)) ?_
              refine GL.nil ?_
              refine GE.any ?_
              refine GA.take 4 #[true, true, true, true, false] rfl (by exact Ev.not rfl) rfl rfl (by kernel_rfl) rfl (by kernel_rfl) (by kernel_rfl) (fun _ _ _ h => h) ?_
              refine GA.done (JOk.dead (by kernel_rfl) (JOk.dead (by kernel_rfl) JOk.nil)) (by kernel_rfl) ?_
              refine GE.seq ?_
              refine GC.ifs (fun h5 => ?_) (fun h5 => ?_)
              · -- FFfFT
                exact absurd (hgr40.trans hgr62.symm) h5
              · -- FFfFF
                refine GC.skip ?_
                refine GE.seq ?_
                refine GC.seq ?_
                refine GC.seq ?_
                refine GC.region ?_
                refine GL.v Wmv ?_
                refine GL.v Wmv ?_
                refine GL.call rfl rfl (toIntS_spec _ _ _ _ _ Wrd Wom) ?_
                rintro _ _ ⟨B67, rfl, rfl⟩
                refine GL.callF rfl rfl (eqIntS_spec _ _ _ _ _ Wrd _ _ _ Wrd Wom) ?_
                refine GL.v Wnt ?_
                refine GL.nil ?_
                refine GE.seq ?_
                refine GC.ifs (fun h6 => ?_) (fun h6 => ?_)
                · -- FFfFFT
                  exact absurd rfl h6
                · -- FFfFFF
                  refine GC.skip ?_
                  refine GE.seq ?_
                  refine GC.seq ?_
                  refine GC.region ?_
                  refine GL.v Wag ?_
                  refine GL.nil ?_
                  refine GE.seq ?_
                  refine GC.seq ?_
                  refine GC.region ?_
                  refine GL.v Wlba ?_
                  refine GL.v Wmv ?_
                  refine GL.front (A := partsA ns40) Wpk ?_
                  refine GL.front (A := row nodeE B40 ns40.length ns40) Wpk ?_
                  refine GL.call rfl rfl (markGraph_spec w0 _ B40 ns40.length ns40 hS40 _ (by decide) (by decide)) ?_
                  rintro _ _ ⟨k72, ns72, qs72, rfl, k72a, k72b, rfl⟩
                  refine GL.v Wag ?_
                  refine GL.nil ?_
                  refine GE.seq ?_
                  refine GC.seq ?_
                  refine GC.region ?_
                  refine GL.v Wmv ?_
                  refine GL.v Wmv ?_
                  refine GL.callP rfl rfl Wpk (markIntS_spec _ _ _ _ _ _ Wom Wom Wom) ?_
                  rintro _ _ ⟨rfl, rfl⟩
                  refine GL.v Wag ?_
                  refine GL.nil ?_
                  refine GE.seq ?_
                  refine GC.seq ?_
                  refine GC.seq ?_
                  refine GC.region ?_
                  refine GL.v Wmv ?_
                  refine GL.v Wls ?_
                  refine GL.v Wmv ?_
                  refine GL.gs (fun h7 => ?_) (fun h7 => ?_)
                  · -- FFfFFFt
                    omega
                  · -- FFfFFFf
                    refine GL.want rfl rfl ?_
                    refine GL.v Wmv ?_
                    refine GL.want rfl rfl ?_
                    refine GL.v Wmv ?_
                    refine GL.want rfl rfl ?_
                    refine GL.callF rfl rfl (eqIntS_spec _ _ _ _ _ Wrd _ _ _ Wrd Wom) ?_
                    refine GL.want rfl rfl ?_
                    refine GL.v Wnt ?_
                    refine GL.v Wpf ?_
                    refine GL.v Wmv ?_
                    refine GL.gs (fun h8 => ?_) (fun h8 => ?_)
                    · -- FFfFFFft
                      exact absurd rfl h8
                    · -- FFfFFFff
                      refine GL.want rfl rfl ?_
                      refine GL.v Wmv ?_
                      refine GL.want rfl rfl ?_
                      refine GL.v Wmv ?_
                      refine GL.want rfl rfl ?_
                      refine GL.v (by exact EvP.r (Ev.neq_bool rfl rfl)) ?_
                      refine GL.v Wpf ?_
                      refine GL.nil ?_
                      refine GE.seq ?_
                      refine GC.ifs (fun h9 => ?_) (fun h9 => ?_)
                      · -- FFfFFFffT
                        exact absurd rfl h9
                      · -- FFfFFFffF
                        refine GC.skip ?_
                        refine GE.seq ?_
                        refine GC.seq ?_
                        refine GC.region ?_
                        refine GL.v Wag ?_
                        refine GL.nil ?_
                        refine GE.seq ?_
                        refine GC.seq ?_
                        refine GC.region ?_
                        refine GL.v Wmv ?_
                        refine GL.v Wmv ?_
                        refine GL.callP rfl rfl Wpk (markIntS_spec _ _ _ _ _ _ Wom Wom Wom) ?_
                        rintro _ _ ⟨rfl, rfl⟩
                        refine GL.v Wag ?_
                        refine GL.nil ?_
                        refine GE.seq ?_
                        refine GC.seq ?_
                        refine GC.region ?_
                        refine GL.v Wag ?_
                        refine GL.nil ?_
                        refine GE.seq ?_
                        refine GC.seq ?_
                        refine GC.region ?_
                        refine GL.v Wmv ?_
                        refine GL.v Wmv ?_
                        refine GL.callF rfl rfl (heldIntS_spec _ _ _ _ _ _ Wrd Wom Wom Wom) ?_
                        refine GL.v Wag ?_
                        refine GL.nil ?_
                        refine GE.seq ?_
                        refine GC.seq ?_
                        refine GC.seq ?_
                        refine GC.region ?_
                        refine GL.v Wmv ?_
                        refine GL.v Wls ?_
                        refine GL.nil ?_
                        refine GE.seq ?_
                        refine GC.ifs (fun h10 => ?_) (fun h10 => ?_)
                        · -- FFfFFFffFT
                          omega
                        · -- FFfFFFffFF
                          refine GC.skip ?_
                          refine GE.seq ?_
                          refine GC.seq ?_
                          refine GC.seq ?_
                          refine GC.region ?_
                          refine GL.v Wmv ?_
                          refine GL.v Wmv ?_
                          refine GL.v Wnq ?_
                          refine GL.nil ?_
                          refine GE.seq ?_
                          refine GC.ifs (fun h11 => ?_) (fun h11 => ?_)
                          · -- FFfFFFffFFT
                            exact absurd rfl h11
                          · -- FFfFFFffFFF
                            refine GC.skip ?_
                            refine GE.seq ?_
                            refine GC.seq ?_
                            refine GC.region ?_
                            refine GL.v Wlba ?_
                            refine GL.call rfl rfl (toGraph_spec _ _ _ _ _ (RdL.imp (by assumption) Wim) (by assumption)) ?_
                            rintro _ _ ⟨B102, ns102, hgr102, rfl, rfl⟩
                            have hS102 := SizeG.gr (by assumption) hgr102
                            refine GL.v Wmv ?_
                            refine GL.call rfl rfl (toIntS_spec _ _ _ _ _ Wrd Wom) ?_
                            rintro _ _ ⟨B104, rfl, rfl⟩
                            refine GL.v Wmv ?_
                            refine GL.v Wmv ?_
                            refine GL.call rfl rfl (iSetCell_spec _ _ _ _ _ (by first | assumption | exact RdG.imp (by assumption) Wim | exact RdG.of_pick Wpk Wpk) _ _ _ Wrd (by first | omega | exact SizeG.le (by assumption)) Wom _ _) ?_
                            rintro _ _ ⟨B107, d107, rfl, rfl⟩
                            rw [hgr102, hRes, hOk]
                            refine GL.v Wmv ?_
                            refine GL.v Wxt ?_
                            refine GL.v Wxt ?_
                            refine GL.v Wag ?_
                            refine GL.v Wag ?_
                            refine GL.nil ?_
                            refine GE.seq ?_
                            refine GC.seq ?_
                            refine GC.seq ?_
                            refine GC.region ?_
                            refine GL.v Wmv ?_
                            refine GL.v Wmv ?_
                            refine GL.callF rfl rfl (eqIntS_spec _ _ _ _ _ Wrd _ _ _ Wrd Wom) ?_
                            refine GL.v Wnt ?_
                            refine GL.v Wmv ?_
                            refine GL.gs (fun h12 => ?_) (fun h12 => ?_)
                            · -- FFfFFFffFFFt
                              exact absurd rfl h12
                            · -- FFfFFFffFFFf
                              refine GL.want rfl rfl ?_
                              refine GL.v Wmv ?_
                              refine GL.want rfl rfl ?_
                              refine GL.v Wmv ?_
                              refine GL.want rfl rfl ?_
                              refine GL.v (by exact EvP.r (Ev.neq_bool rfl rfl)) ?_
                              refine GL.v Wpf ?_
                              refine GL.nil ?_
                              refine GE.seq ?_
                              refine GC.ifs (fun h13 => ?_) (fun h13 => ?_)
                              · -- FFfFFFffFFFfT
                                exact absurd rfl h13
                              · -- FFfFFFffFFFfF
                                refine GC.skip ?_
                                refine GE.seq ?_
                                refine GC.seq ?_
                                refine GC.region ?_
                                refine GL.v Wag ?_
                                refine GL.nil ?_
                                refine GE.seq ?_
                                refine GC.seq ?_
                                refine GC.region ?_
                                refine GL.v Wmv ?_
                                refine GL.v Wmv ?_
                                refine GL.callF rfl rfl (heldIntS_spec _ _ _ _ _ _ Wrd Wom Wom Wom) ?_
                                refine GL.v Wag ?_
                                refine GL.nil ?_
                                refine GE.seq ?_
                                refine GC.seq ?_
                                refine GC.seq ?_
                                refine GC.region ?_
                                refine GL.v Wmv ?_
                                refine GL.v Wls ?_
                                refine GL.nil ?_
                                refine GE.seq ?_
                                refine GC.ifs (fun h14 => ?_) (fun h14 => ?_)
                                · -- FFfFFFffFFFfFT
                                  omega
                                · -- FFfFFFffFFFfFF
                                  refine GC.skip ?_
                                  refine GE.seq ?_
                                  refine GC.seq ?_
                                  refine GC.seq ?_
                                  refine GC.region ?_
                                  refine GL.v Wmv ?_
                                  refine GL.v Wmv ?_
                                  refine GL.v Wnq ?_
                                  refine GL.nil ?_
                                  refine GE.seq ?_
                                  refine GC.ifs (fun h15 => ?_) (fun h15 => ?_)
                                  · -- FFfFFFffFFFfFFT
                                    exact absurd rfl h15
                                  · -- FFfFFFffFFFfFFF
                                    refine GC.skip ?_
                                    refine GE.seq ?_
                                    refine GC.seq ?_
                                    refine GC.region ?_
                                    refine GL.v Wag ?_
                                    refine GL.nil ?_
                                    refine GE.seq ?_
                                    refine GC.ret ?_
                                    -- returns, path FFfFFFffFFFfFFF
                                    refine GE.ret_tmp (L' := L) (.inl rfl) rfl rfl Wsb ?_
                                    exact ⟨rfl, rfl⟩
            exact GAs.nil
          exact GAs.nil
theorem fnExactSetCell_calls {H : Type} {enc : TypeId × Value → H} {W : World} {base : Nat} {args : Array Value} {ds : List (DataW H)} {p : List MemPlace} (hval : ∀ (j : Nat) t v, Try.f4.params[j]? = some t → args[j]? = some v → Value.okWide Try.prog W .any base t v)
    (hA : DataW.TrodAll enc Try.prog W 0 (fun _ => true) true Try.f4.params.toList args.toList ds p) : Tr Try.prog 4 args W [] (fun v L' => v = .bool true ∧ L' = []) := by
  rw [Try.params4] at hA hval
  obtain ⟨v0, vs0, d0, ds0, p0, q0, hargs, rfl, rfl, h0, r0⟩ := trodAll_cons hA
  obtain ⟨v1, vs1, d1, ds1, p1, q1, rfl, rfl, rfl, h1, r1⟩ := trodAll_cons r0
  obtain ⟨v2, vs2, d2, ds2, p2, q2, rfl, rfl, rfl, h2, r2⟩ := trodAll_cons r1
  obtain ⟨v3, vs3, d3, ds3, p3, q3, rfl, rfl, rfl, h3, r3⟩ := trodAll_cons r2
  obtain ⟨rfl, rfl, rfl⟩ := trodAll_nil r3
  obtain rfl : args = #[v0, v1, v2, v3] := by cases args; simp_all
  obtain ⟨A, c, ms, rfl, hG⟩ := arg_graph (hval 0 _ v0 rfl rfl) h0
  obtain ⟨B, d, xs, rfl, hX, _⟩ := arg_sl (E := intE) (st := 26) (by kernel_rfl) (opens_ints W) (hval 1 _ v1 rfl rfl) h1
  obtain ⟨n, rfl, _⟩ := arg_int (t := 3) (k := .i64) (by kernel_rfl) (hval 2 _ v2 rfl rfl) h2
  obtain ⟨y, rfl, _⟩ := arg_int (t := 3) (k := .i64) (by kernel_rfl) (hval 3 _ v3 rfl rfl) h3
  exact FnExactSetCell_spec W [] A c ms hG B d xs hX n y
theorem fnExactSetCell_lifted (os : Os) (started : os.Started) (H : Type) (enc : TypeId × Value → H) :
    ReturnsInHanded {} Try.checked os 4 .any (Ytpkooglnapjcnaa.Rows.fnExactSetCellSpec.pre6 enc Try.prog Try.f4 Ytpkooglnapjcnaa.Rows.fnExactSetCellRow.domain false) (Ytpkooglnapjcnaa.Rows.fnExactSetCellSpec.post enc Try.prog Try.f4 false true false false) := by
  refine returnsInHanded_of_change (C := Try.checked) own started (by kernel_rfl) Try.func4
    (ChangeSpec.witness6 (enc := enc) (C := Try.checked) false ⟨#[], #[.agg #[.slice none 0 0], .slice none 0 0, .int .i64 0, .int .i64 0], []⟩ 8 (by kernel_rfl) (by kernel_rfl) (by kernel_rfl) (by kernel_rfl)) ?_
  intro W base args ds gs before hval0 hW hcnd _
  have hval : ∀ (j : Nat) t v, Try.f4.params[j]? = some t → args[j]? = some v → Value.okWide Try.prog W .any base t v := hval0
  have hW' := hW
  obtain ⟨p, q, hA0, _⟩ := hW
  have hA : DataW.TrodAll enc Try.prog W 0 (fun _ => true) true Try.f4.params.toList args.toList ds p := hA0
  have hlen : ds.length = Try.f4.params.toList.length := trodAll_len hA
  rw [Try.params4] at hlen
  refine ((fnExactSetCell_calls hval hA).go W (St.start W)).mono ?_
  rintro e W' ⟨v, L', ⟨rfl, rfl⟩, rfl, hs⟩
  exact ⟨_, rfl, law_post kids full (by rw [Try.params4]; decide) hW' rfl (fun hg => by subst hg; match ds, hlen with | [_, _, _, _], _ => exact bool_res) (fun hg => by subst hg; match ds, hlen with | [_, _, _, _], _ => rfl) (fun hg => by subst hg; match ds, hlen with | [_, _, _, _], _ => rfl) hs.below⟩
theorem fnExactSetCell_over : Ytpkooglnapjcnaa.Rows.fnExactSetCellRow.holds Try.pinned (OpenSpec.ofChange Ytpkooglnapjcnaa.Rows.fnExactSetCellSpec) :=
  OpenClaim.holds_of_wide 4 Try.f4 rfl rfl rfl rfl rfl rfl rfl ⟨rfl, rfl, rfl, rfl, rfl⟩ rfl rfl rfl rfl rfl (by kernel_rfl) Try.func4 (by kernel_rfl)
    (of_decide_eq_true (by kernel_rfl)) (by unfold Func.isWrapper; first | (rw [if_pos (by decide +kernel)]; kernel_rfl) | (rw [if_neg (by decide +kernel)]; exact ⟨rfl, rfl⟩))
    (fun os started H enc _ => fnExactSetCell_lifted os started H enc)
end SG
namespace Go.Proofs.Ytpkooglnapjcnaa
theorem fnExactSetCell_proved : Rows.FnExactSetCellSaid := SG.fnExactSetCell_over
end Go.Proofs.Ytpkooglnapjcnaa
#print axioms Go.Proofs.Ytpkooglnapjcnaa.fnExactSetCell_proved
