/- The law FnExactNeedOf holds for every input. -/
import Derived.Test.YtphapjfhcbledaaD9
import Derived.Test.YtphapjfhcbledaaD20
import Derived.Test.YtphapjfhcbledaaD21
import Derived.Test.YtphapjfhcbledaaD23
import Derived.Test.YtphapjfhcbledaaRows
namespace SG
open Go Go.RowKit Go.Proofs Go.Proofs.Ytphapjfhcbledaa Go.ChangeShapes Go.WideShapes Go.Deep
set_option linter.unusedVariables false
set_option linter.unusedSimpArgs false
set_option maxRecDepth 100000
theorem FnExactNeedOf_spec (w0 : World) (L : List Asn) (A : Option Addr) (c : Nat) (ms : List NdM) (hG : RdL w0 L A c ms) (n : Int) :
    Tr Try.prog 11 #[.agg #[.slice A ms.length c], .int .i64 n] w0 L (fun v L' => v = .bool true ∧ L' = L) := by
  refine Tr.enter (args := [.agg #[.slice A ms.length c], .int .i64 n]) Try.func11 Try.ntmps11 rfl rfl ?_
  refine GC.seq ?_
  refine GC.region ?_
  refine GL.box_agg rfl rfl ?_; intro g2
  refine GL.v Wag ?_
  refine GL.nil ?_
  refine GE.seq ?_
  refine GC.seq ?_
  refine GC.region ?_
  refine GL.v Wag ?_
  refine GL.nil ?_
  refine GE.seq ?_
  refine GC.seq ?_
  refine GC.region ?_
  refine GL.v Wlba ?_
  refine GL.v Wmv ?_
  refine GL.call rfl rfl (szGraph_spec _ _ _ _ _ (RdL.imp (by assumption) Wim) _ (by omega) (by omega)) ?_
  rintro _ _ ⟨x15, rfl, x15a, x15b, x15c, e15⟩
  rw [e15]; clear e15
  refine GL.v Wag ?_
  refine GL.nil ?_
  refine GE.seq ?_
  refine GC.seq ?_
  refine GC.seq ?_
  refine GC.region ?_
  refine GL.v Wmv ?_
  refine GL.v Wls ?_
  refine GL.nil ?_
  refine GE.seq ?_
  refine GC.ifs (fun h1 => ?_) (fun h1 => ?_)
  · -- T
    refine GC.seq ?_
    refine GC.region ?_
    refine GL.v Wag ?_
    refine GL.nil ?_
    refine GE.seq ?_
    refine GC.ret ?_
    refine GE.seq_ret ?_
    -- returns, path T
    refine GE.ret_tmp (L' := L) (.inl rfl) rfl rfl Wsb ?_
    exact ⟨rfl, rfl⟩
  · -- F
    have hS := x15c (by omega)
    have hSl := hS.1
    have hten := needOfL_ten (gr ms) n
    refine GC.skip ?_
    refine GE.seq ?_
    refine GC.seq ?_
    refine GC.region ?_
    refine GL.v Wlba ?_
    refine GL.call rfl rfl (toGraph_spec _ _ _ _ _ (RdL.imp (by assumption) Wim) (by assumption)) ?_
    rintro _ _ ⟨B19, ns19, hgr19, rfl, rfl⟩
    have hS19 := SizeG.gr (by assumption) hgr19
    refine GL.v Wmv ?_
    refine GL.call rfl rfl (sNeedOf_spec _ _ _ _ _ (by first | assumption | exact RdG.imp (by assumption) Wim | exact RdG.of_pick Wpk Wpk) (by assumption) _) ?_
    rintro _ _ ⟨B21, d21, rfl, rfl⟩
    rw [hgr19]
    refine GL.v Wag ?_
    refine GL.nil ?_
    refine GE.seq ?_
    refine GC.seq ?_
    refine GC.region ?_
    refine GL.v Wlba ?_
    refine GL.call rfl rfl (toGraph_spec _ _ _ _ _ (RdL.imp (by assumption) Wim) (by assumption)) ?_
    rintro _ _ ⟨B23, ns23, hgr23, rfl, rfl⟩
    have hS23 := SizeG.gr (by assumption) hgr23
    refine GL.alloc rfl ?_; intro g7
    refine GL.store_varN rfl rfl rfl Wpk (by rfl) (by rfl) (by rfl) ?_
    refine GL.nil ?_
    refine GE.seq ?_
    refine GC.seq ?_
    refine GC.region ?_
    refine GL.v Wlba ?_
    refine GL.v Wmv ?_
    refine GL.call rfl rfl (iNeedOf_spec _ _ _ _ _ (by first | assumption | exact RdG.imp (by assumption) Wim | exact RdG.of_pick Wpk Wpk) (by first | omega | exact SizeG.le (by assumption)) _) ?_
    rintro _ _ ⟨B26, d26, rfl, rfl⟩
    rw [hgr23]
    refine GL.v Wag ?_
    refine GL.nil ?_
    refine GE.seq ?_
    refine GC.seq ?_
    refine GC.seq ?_
    refine GC.region ?_
    refine GL.v Wmv ?_
    refine GL.v Wmv ?_
    refine GL.callF rfl rfl (eqIntS_spec _ _ _ _ _ Wrd _ _ _ Wrd Wom) ?_
    refine GL.v Wnt ?_
    refine GL.nil ?_
    refine GE.seq ?_
    refine GC.ifs (fun h2 => ?_) (fun h2 => ?_)
    · -- FT
      exact absurd rfl h2
    · -- FF
      refine GC.skip ?_
      refine GE.seq ?_
      refine GC.seq ?_
      refine GC.seq ?_
      refine GC.region_any #[false, false, true, true, false] mixed ?_
      refine GA.read 0 #[false, true, true, false, false] rfl (by exact Wlba) rfl rfl (by kernel_rfl) rfl (by kernel_rfl) (by kernel_rfl) (fun _ _ _ h => h) ?_
      refine GA.read 1 #[true, false, false, false, false] rfl (by exact Wlba) rfl rfl (by kernel_rfl) rfl (by kernel_rfl) (by kernel_rfl) (fun _ _ _ h => h) ?_
      refine GA.branch (rs := [2]) (JOk.live (by exact Wlba) (JOk.live (by exact Wlba) JOk.nil)) (by kernel_rfl) (by simp) ?_
      refine GAs.cons rfl ?_ ?_
      · -- FF op 2
        refine GL.call rfl rfl (toGraph_spec _ _ _ _ _ (RdL.imp (by assumption) Wim) (by assumption)) ?_
        rintro _ _ ⟨B33, ns33, hgr33, rfl, rfl⟩
        have hS33 := SizeG.gr (by assumption) hgr33
        refine GL.nil ?_
        refine GE.any ?_
        refine GA.branch (rs := [3]) (JOk.dead (by kernel_rfl) (JOk.live (by exact Wlba) JOk.nil)) (by kernel_rfl) (by simp) ?_
        refine GAs.cons rfl ?_ ?_
        · -- FF op 3
          refine GL.callF rfl rfl (eqGraph_spec _ _ _ _ _ (by first | assumption | exact RdG.imp (by assumption) Wim | exact RdG.of_pick Wpk Wpk) _ _ _ (by first | assumption | exact RdG.imp (by assumption) Wim | exact RdG.of_pick Wpk Wpk) (by assumption)) ?_
          refine GL.nil ?_
          refine GE.any ?_
          refine GA.take 4 #[true, true, true, true, false] rfl (by exact Ev.not rfl) rfl rfl (by kernel_rfl) rfl (by kernel_rfl) (by kernel_rfl) (fun _ _ _ h => h) ?_
          refine GA.done (JOk.dead (by kernel_rfl) (JOk.dead (by kernel_rfl) JOk.nil)) (by kernel_rfl) ?_
          refine GE.seq ?_
          refine GC.ifs (fun h3 => ?_) (fun h3 => ?_)
          · -- FFT
            exact absurd (hgr23.trans hgr33.symm) h3
          · -- FFF
            refine GC.skip ?_
            refine GE.seq ?_
            refine GC.seq ?_
            refine GC.region ?_
            refine GL.v Wag ?_
            refine GL.nil ?_
            refine GE.seq ?_
            refine GC.seq ?_
            refine GC.region ?_
            refine GL.v Wlba ?_
            refine GL.v Wmv ?_
            refine GL.front (A := partsA ns23) Wpk ?_
            refine GL.front (A := row nodeE B23 ns23.length ns23) Wpk ?_
            refine GL.call rfl rfl (markGraph_spec w0 _ B23 ns23.length ns23 hS23 1 (by decide) (by decide)) ?_
            rintro _ _ ⟨k38, ns38, qs38, rfl, k38a, rfl⟩
            refine GL.v Wag ?_
            refine GL.nil ?_
            refine GE.seq ?_
            refine GC.seq ?_
            refine GC.seq ?_
            refine GC.region ?_
            refine GL.v Wmv ?_
            refine GL.v Wls ?_
            refine GL.v Wmv ?_
            refine GL.gs (fun h4 => ?_) (fun h4 => ?_)
            · -- FFFt
              omega
            · -- FFFf
              refine GL.want rfl rfl ?_
              refine GL.v Wmv ?_
              refine GL.want rfl rfl ?_
              refine GL.v Wmv ?_
              refine GL.want rfl rfl ?_
              refine GL.callF rfl rfl (eqIntS_spec _ _ _ _ _ Wrd _ _ _ Wrd Wom) ?_
              refine GL.want rfl rfl ?_
              refine GL.v Wnt ?_
              refine GL.v Wpf ?_
              refine GL.nil ?_
              refine GE.seq ?_
              refine GC.ifs (fun h5 => ?_) (fun h5 => ?_)
              · -- FFFfT
                exact absurd rfl h5
              · -- FFFfF
                refine GC.skip ?_
                refine GE.seq ?_
                refine GC.seq ?_
                refine GC.region ?_
                refine GL.v Wag ?_
                refine GL.nil ?_
                refine GE.seq ?_
                refine GC.seq ?_
                refine GC.region ?_
                refine GL.v Wmv ?_
                refine GL.v Wmv ?_
                refine GL.callP rfl rfl Wpk (markIntS_spec _ _ _ _ _ _ Wom Wom Wom) ?_
                rintro _ _ ⟨rfl, rfl⟩
                refine GL.v Wag ?_
                refine GL.nil ?_
                refine GE.seq ?_
                refine GC.seq ?_
                refine GC.region ?_
                refine GL.v Wag ?_
                refine GL.nil ?_
                refine GE.seq ?_
                refine GC.seq ?_
                refine GC.region ?_
                refine GL.v Wmv ?_
                refine GL.v Wmv ?_
                refine GL.callF rfl rfl (heldIntS_spec _ _ _ _ _ _ Wrd Wom Wom Wom) ?_
                refine GL.v Wag ?_
                refine GL.nil ?_
                refine GE.seq ?_
                refine GC.seq ?_
                refine GC.seq ?_
                refine GC.region ?_
                refine GL.v Wmv ?_
                refine GL.v Wls ?_
                refine GL.nil ?_
                refine GE.seq ?_
                refine GC.ifs (fun h6 => ?_) (fun h6 => ?_)
                · -- FFFfFT
                  omega
                · -- FFFfFF
                  refine GC.skip ?_
                  refine GE.seq ?_
                  refine GC.seq ?_
                  refine GC.seq ?_
                  refine GC.region ?_
                  refine GL.v Wmv ?_
                  refine GL.v Wmv ?_
                  refine GL.v Wnq ?_
                  refine GL.nil ?_
                  refine GE.seq ?_
                  refine GC.ifs (fun h7 => ?_) (fun h7 => ?_)
                  · -- FFFfFFT
                    exact absurd rfl h7
                  · -- FFFfFFF
                    refine GC.skip ?_
                    refine GE.seq ?_
                    refine GC.seq ?_
                    refine GC.region ?_
                    refine GL.v Wlba ?_
                    refine GL.call rfl rfl (toGraph_spec _ _ _ _ _ (RdL.imp (by assumption) Wim) (by assumption)) ?_
                    rintro _ _ ⟨B59, ns59, hgr59, rfl, rfl⟩
                    have hS59 := SizeG.gr (by assumption) hgr59
                    refine GL.v Wmv ?_
                    refine GL.call rfl rfl (iNeedOf_spec _ _ _ _ _ (by first | assumption | exact RdG.imp (by assumption) Wim | exact RdG.of_pick Wpk Wpk) (by first | omega | exact SizeG.le (by assumption)) _) ?_
                    rintro _ _ ⟨B61, d61, rfl, rfl⟩
                    rw [hgr59]
                    refine GL.v Wag ?_
                    refine GL.nil ?_
                    refine GE.seq ?_
                    refine GC.seq ?_
                    refine GC.seq ?_
                    refine GC.region ?_
                    refine GL.v Wmv ?_
                    refine GL.v Wmv ?_
                    refine GL.callF rfl rfl (eqIntS_spec _ _ _ _ _ Wrd _ _ _ Wrd Wom) ?_
                    refine GL.v Wnt ?_
                    refine GL.nil ?_
                    refine GE.seq ?_
                    refine GC.ifs (fun h8 => ?_) (fun h8 => ?_)
                    · -- FFFfFFFT
                      exact absurd rfl h8
                    · -- FFFfFFFF
                      refine GC.skip ?_
                      refine GE.seq ?_
                      refine GC.seq ?_
                      refine GC.region ?_
                      refine GL.v Wag ?_
                      refine GL.nil ?_
                      refine GE.seq ?_
                      refine GC.seq ?_
                      refine GC.region ?_
                      refine GL.v Wmv ?_
                      refine GL.v Wmv ?_
                      refine GL.callF rfl rfl (heldIntS_spec _ _ _ _ _ _ Wrd Wom Wom Wom) ?_
                      refine GL.v Wag ?_
                      refine GL.nil ?_
                      refine GE.seq ?_
                      refine GC.seq ?_
                      refine GC.seq ?_
                      refine GC.region ?_
                      refine GL.v Wmv ?_
                      refine GL.v Wls ?_
                      refine GL.nil ?_
                      refine GE.seq ?_
                      refine GC.ifs (fun h9 => ?_) (fun h9 => ?_)
                      · -- FFFfFFFFT
                        omega
                      · -- FFFfFFFFF
                        refine GC.skip ?_
                        refine GE.seq ?_
                        refine GC.seq ?_
                        refine GC.seq ?_
                        refine GC.region ?_
                        refine GL.v Wmv ?_
                        refine GL.v Wmv ?_
                        refine GL.v Wnq ?_
                        refine GL.nil ?_
                        refine GE.seq ?_
                        refine GC.ifs (fun h10 => ?_) (fun h10 => ?_)
                        · -- FFFfFFFFFT
                          exact absurd rfl h10
                        · -- FFFfFFFFFF
                          refine GC.skip ?_
                          refine GE.seq ?_
                          refine GC.seq ?_
                          refine GC.region ?_
                          refine GL.v Wag ?_
                          refine GL.nil ?_
                          refine GE.seq ?_
                          refine GC.ret ?_
                          -- returns, path FFFfFFFFFF
                          refine GE.ret_tmp (L' := L) (.inl rfl) rfl rfl Wsb ?_
                          exact ⟨rfl, rfl⟩
        exact GAs.nil
      exact GAs.nil
theorem fnExactNeedOf_calls {H : Type} {enc : TypeId × Value → H} {W : World} {base : Nat} {args : Array Value} {ds : List (DataW H)} {p : List MemPlace} (hval : ∀ (j : Nat) t v, Try.f11.params[j]? = some t → args[j]? = some v → Value.okWide Try.prog W .any base t v)
    (hA : DataW.TrodAll enc Try.prog W 0 (fun _ => true) true Try.f11.params.toList args.toList ds p) : Tr Try.prog 11 args W [] (fun v L' => v = .bool true ∧ L' = []) := by
  rw [Try.params11] at hA hval
  obtain ⟨v0, vs0, d0, ds0, p0, q0, hargs, rfl, rfl, h0, r0⟩ := trodAll_cons hA
  obtain ⟨v1, vs1, d1, ds1, p1, q1, rfl, rfl, rfl, h1, r1⟩ := trodAll_cons r0
  obtain ⟨rfl, rfl, rfl⟩ := trodAll_nil r1
  obtain rfl : args = #[v0, v1] := by cases args; simp_all
  obtain ⟨A, c, ms, rfl, hG⟩ := arg_graph (hval 0 _ v0 rfl rfl) h0
  obtain ⟨n, rfl, _⟩ := arg_int (t := 3) (k := .i64) (by kernel_rfl) (hval 1 _ v1 rfl rfl) h1
  exact FnExactNeedOf_spec W [] A c ms hG n
theorem fnExactNeedOf_lifted (os : Os) (started : os.Started) (H : Type) (enc : TypeId × Value → H) :
    ReturnsInHanded {} Try.checked os 11 .any (Ytphapjfhcbledaa.Rows.fnExactNeedOfSpec.pre6 enc Try.prog Try.f11 Ytphapjfhcbledaa.Rows.fnExactNeedOfRow.domain false) (Ytphapjfhcbledaa.Rows.fnExactNeedOfSpec.post enc Try.prog Try.f11 false true false false) := by
  refine returnsInHanded_of_change (C := Try.checked) own started (by kernel_rfl) Try.func11
    (ChangeSpec.witness6 (enc := enc) (C := Try.checked) false ⟨#[], #[.agg #[.slice none 0 0], .int .i64 0], []⟩ 8 (by kernel_rfl) (by kernel_rfl) (by kernel_rfl) (by kernel_rfl)) ?_
  intro W base args ds gs before hval0 hW hcnd _
  have hval : ∀ (j : Nat) t v, Try.f11.params[j]? = some t → args[j]? = some v → Value.okWide Try.prog W .any base t v := hval0
  have hW' := hW
  obtain ⟨p, q, hA0, _⟩ := hW
  have hA : DataW.TrodAll enc Try.prog W 0 (fun _ => true) true Try.f11.params.toList args.toList ds p := hA0
  have hlen : ds.length = Try.f11.params.toList.length := trodAll_len hA
  rw [Try.params11] at hlen
  refine ((fnExactNeedOf_calls hval hA).go W (St.start W)).mono ?_
  rintro e W' ⟨v, L', ⟨rfl, rfl⟩, rfl, hs⟩
  exact ⟨_, rfl, law_post kids full (by rw [Try.params11]; decide) hW' rfl (fun hg => by subst hg; match ds, hlen with | [_, _], _ => exact bool_res) (fun hg => by subst hg; match ds, hlen with | [_, _], _ => rfl) (fun hg => by subst hg; match ds, hlen with | [_, _], _ => rfl) hs.below⟩
theorem fnExactNeedOf_over : Ytphapjfhcbledaa.Rows.fnExactNeedOfRow.holds Try.pinned (OpenSpec.ofChange Ytphapjfhcbledaa.Rows.fnExactNeedOfSpec) :=
  OpenClaim.holds_of_wide 11 Try.f11 rfl rfl rfl rfl rfl rfl rfl ⟨rfl, rfl, rfl, rfl, rfl⟩ rfl rfl rfl rfl rfl (by kernel_rfl) Try.func11 (by kernel_rfl)
    (of_decide_eq_true (by kernel_rfl)) (by unfold Func.isWrapper; first | (rw [if_pos (by decide +kernel)]; kernel_rfl) | (rw [if_neg (by decide +kernel)]; exact ⟨rfl, rfl⟩))
    (fun os started H enc _ => fnExactNeedOf_lifted os started H enc)
end SG
namespace Go.Proofs.Ytphapjfhcbledaa
theorem fnExactNeedOf_proved : Rows.FnExactNeedOfSaid := SG.fnExactNeedOf_over
end Go.Proofs.Ytphapjfhcbledaa
#print axioms Go.Proofs.Ytphapjfhcbledaa.fnExactNeedOf_proved
