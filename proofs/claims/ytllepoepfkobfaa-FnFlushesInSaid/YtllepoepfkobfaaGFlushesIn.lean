/- The law FnFlushesIn holds for every input. -/
import Derived.Test.YtllepoepfkobfaaD42
import Derived.Test.YtllepoepfkobfaaD44
import Derived.Test.YtllepoepfkobfaaD46
import Derived.Test.YtllepoepfkobfaaD47
import Derived.Test.YtllepoepfkobfaaRows
namespace SG
open Go Go.RowKit Go.Proofs Go.Proofs.Ytllepoepfkobfaa Go.ChangeShapes Go.WideShapes Go.Deep
set_option linter.unusedVariables false
set_option linter.unusedSimpArgs false
set_option maxRecDepth 100000
theorem FnFlushesIn_spec (w0 : World) (L : List Asn) (A : Option Addr) (c : Nat) (bs : List Int) (hR : Rd w0 [] byteE A c bs) (hb : ∀ x ∈ bs, 0 ≤ x ∧ x ≤ 255) :
    Tr Try.prog 5 #[.slice A bs.length c] w0 L (fun v L' => v = .bool true ∧ L' = L) := by
  refine Tr.rd_cap (hR.imp Imp.nil) fun hc1 hc2 => ?_
  refine Tr.enter (args := [.slice A bs.length c]) Try.func5 Try.ntmps5 rfl rfl ?_
  refine GC.seq ?_
  refine GC.region ?_
  refine GL.v Wag ?_
  refine GL.nil ?_
  refine GE.seq ?_
  refine GC.seq ?_
  refine GC.seq ?_
  refine GC.region ?_
  refine GL.v Wmv ?_
  refine GL.v Wln ?_
  refine GL.v Wgt ?_
  refine GL.nil ?_
  refine GE.seq ?_
  refine GC.ifs (fun h1 => ?_) (fun h1 => ?_)
  · -- T
    refine GC.seq ?_
    refine GC.region ?_
    refine GL.v Wag ?_
    refine GL.nil ?_
    refine GE.seq ?_
    refine GC.ret ?_
    refine GE.seq_ret ?_
    -- returns, path T
    refine GE.ret_tmp (L' := L) (.inl rfl) rfl rfl Wsb ?_
    exact ⟨rfl, rfl⟩
  · -- F
    refine GC.skip ?_
    refine GE.seq ?_
    refine GC.seq ?_
    refine GC.region ?_
    refine GL.v Wmv ?_
    refine GL.call rfl rfl (DrawFlushesIn_spec _ _ _ _ _ (by assumption) (by assumption) (by omega) (by omega)) ?_
    rintro _ _ ⟨D20, e20, ms20, E20, f20, ac20, rfl, ms20a, ms20b, ms20c, ac20a, rfl⟩
    have hS20 := SizeG.small ms20b ms20c
    refine GL.v Wmv ?_
    refine GL.v Wxt ?_
    refine GL.v Wxt ?_
    refine GL.alloc rfl ?_; intro g3
    refine GL.store_varN rfl rfl rfl Wpk (by rfl) (by rfl) (by rfl) ?_
    refine GL.v Wag ?_
    refine GL.nil ?_
    refine GE.seq ?_
    refine GC.seq ?_
    refine GC.region ?_
    refine GL.v Wlba ?_
    refine GL.v Wmv ?_
    refine GL.callF rfl rfl (iFlushesIn_spec _ _ _ _ _ (by first | assumption | exact RdG.imp (by assumption) Wim | exact RdG.of_pick Wpk Wpk) _ _ _ Wrd (by first | omega | exact SizeG.le (by assumption)) Wom) ?_
    refine GL.v Wmv ?_
    refine GL.v Wxt ?_
    refine GL.v Wxt ?_
    refine GL.v Wag ?_
    refine GL.v Wag ?_
    refine GL.nil ?_
    refine GE.seq ?_
    refine GC.seq ?_
    refine GC.region ?_
    refine GL.v Wlba ?_
    refine GL.v Wmv ?_
    refine GL.callF rfl rfl (sFlushesIn_spec _ _ _ _ _ (by first | assumption | exact RdG.imp (by assumption) Wim | exact RdG.of_pick Wpk Wpk) _ _ _ Wrd (by assumption) Wom) ?_
    refine GL.v Wmv ?_
    refine GL.v Wxt ?_
    refine GL.v Wxt ?_
    refine GL.v Wag ?_
    refine GL.v Wag ?_
    refine GL.nil ?_
    refine GE.seq ?_
    refine GC.seq ?_
    refine GC.seq ?_
    refine GC.region ?_
    refine GL.v Wmv ?_
    refine GL.v Wmv ?_
    refine GL.v Wnq ?_
    refine GL.v Wmv ?_
    refine GL.gs (fun h2 => ?_) (fun h2 => ?_)
    · -- Ft
      exact absurd rfl h2
    · -- Ff
      refine GL.want rfl rfl ?_
      refine GL.v Wmv ?_
      refine GL.want rfl rfl ?_
      refine GL.v Wmv ?_
      refine GL.want rfl rfl ?_
      refine GL.v Wnq ?_
      refine GL.v Wpf ?_
      refine GL.v Wmv ?_
      refine GL.gs (fun h3 => ?_) (fun h3 => ?_)
      · -- Fft
        exact absurd rfl h3
      · -- Fff
        refine GL.want rfl rfl ?_
        refine GL.v Wmv ?_
        refine GL.want rfl rfl ?_
        refine GL.v Wls ?_
        refine GL.v Wpf ?_
        refine GL.nil ?_
        refine GE.seq ?_
        refine GC.ifs (fun h4 => ?_) (fun h4 => ?_)
        · -- FffT
          refine GC.seq ?_
          refine GC.region ?_
          refine GL.v Wmv ?_
          refine GL.v Wmv ?_
          refine GL.v Weq ?_
          refine GL.v Wmv ?_
          refine GL.gs (fun h5 => ?_) (fun h5 => ?_)
          · -- FffTt
            refine GL.want rfl rfl ?_
            refine GL.v Wmv ?_
            refine GL.want rfl rfl ?_
            refine GL.v Wmv ?_
            refine GL.want rfl rfl ?_
            refine GL.v Weq ?_
            refine GL.v Wpt ?_
            refine GL.v Wag ?_
            refine GL.nil ?_
            refine GE.seq ?_
            refine GC.ret ?_
            refine GE.seq_ret ?_
            -- returns, path FffTt
            refine GE.ret_tmp (L' := L) (.inl rfl) rfl rfl Wsb ?_
            exact ⟨by simp, rfl⟩
          · -- FffTf
            exact absurd rfl h5
        · -- FffF
          have hv : actsB (gr ms20) ac20 = true := flN_some (by omega)
          have hfn := fl_num hv
          refine GC.skip ?_
          refine GE.seq ?_
          refine GC.seq ?_
          refine GC.region ?_
          refine GL.v Wag ?_
          refine GL.nil ?_
          refine GE.seq ?_
          refine GC.seq ?_
          refine GC.region ?_
          refine GL.v Wag ?_
          refine GL.nil ?_
          refine GE.seq ?_
          refine GC.seq ?_
          refine GC.seq ?_
          refine GC.region ?_
          refine GL.v Wag ?_
          refine GL.nil ?_
          refine GE.seq ?_
          refine GC.block ?_
          -- loop 1: carried slots [9, 10, 11]
          refine GC.loopK (α := Nat) (fun i => i ≤ ac20.length) (fun i => [(9, .int .i64 (numA isFl ac20 i)), (10, .int .i64 (numA isBg ac20 i)), (11, .int .i64 i)]) [(3, _), (4, _), (5, _), (6, _)] (fun i => blk g3 25 [.slice D20 ms20.length e20] :: row nodeE D20 e20 ms20 :: partsA ms20 :: row actE E20 f20 ac20 :: L) (fun i => ac20.length - i) 0 (by rw [numA_zero, numA_zero]; exact Wkp) Wsb (Nat.zero_le _) ?_
          rintro i hi
          have hn1 := numA_le isFl ac20 i
          have hn2 := numA_le isBg ac20 i
          refine GC.seq ?_
          refine GC.seq ?_
          refine GC.region ?_
          refine GL.v Wmv ?_
          refine GL.v Wmv ?_
          refine GL.v Wln ?_
          refine GL.v Wls ?_
          refine GL.nil ?_
          refine GE.seq ?_
          refine GC.ifs (fun h5 => ?_) (fun h5 => ?_)
          · -- FffFT
            have hil : i < ac20.length := by omega
            refine GC.skip ?_
            refine GE.seq ?_
            refine GC.seq ?_
            refine GC.block ?_
            refine GC.seq ?_
            refine GC.seq ?_
            refine GC.region ?_
            refine GL.v Wmv ?_
            refine GL.v Wmv ?_
            refine GL.v Wix ?_
            refine GL.v Wfa ?_
            refine GL.v Wlef ?_
            refine GL.v Weq ?_
            refine GL.v Wmv ?_
            refine GL.gs (fun h6 => ?_) (fun h6 => ?_)
            · -- FffFTt
              refine GL.unwant rfl rfl rfl rfl ?_
              refine GL.unwant rfl rfl rfl rfl ?_
              refine GL.unwant rfl rfl rfl rfl ?_
              refine GL.unwant rfl rfl rfl rfl ?_
              refine GL.unwant rfl rfl rfl rfl ?_
              refine GL.unwant rfl rfl rfl rfl ?_
              refine GL.v Wpt ?_
              refine GL.nil ?_
              refine GE.seq ?_
              refine GC.cond_true rfl ?_
              refine GC.region ?_
              refine GL.v Wmv ?_
              refine GL.v Wad ?_
              refine GL.v Wag ?_
              refine GL.nil ?_
              refine GE.seq ?_
              refine GC.seq ?_
              refine GC.region ?_
              refine GL.v Wmv ?_
              refine GL.v Wmv ?_
              refine GL.v Wix ?_
              refine GL.v Wfa ?_
              refine GL.v Wlef ?_
              refine GL.v Weq ?_
              refine GL.nil ?_
              refine GE.seq ?_
              refine GC.ifs (fun h7 => ?_) (fun h7 => ?_)
              · -- FffFTtT
                omega
              · -- FffFTtF
                refine GC.skip ?_
                refine GE.block ?_
                refine GE.seq ?_
                refine GC.region ?_
                refine GL.v Wmv ?_
                refine GL.v Wad ?_
                refine GL.v Wag ?_
                refine GL.nil ?_
                -- round of loop 1, path FffFTtF
                refine GE.round (i + 1) (by omega) (by omega) (by rw [numA_yes hil (by simp [isFl, h6]), numA_no (p := isBg) hil (by simp [isBg, h7])]; exact Wkp) Wsb
            · -- FffFTf
              refine GL.want rfl rfl ?_
              refine GL.v Wmv ?_
              refine GL.want rfl rfl ?_
              refine GL.v Wmv ?_
              refine GL.want rfl rfl ?_
              refine GL.v Wix ?_
              refine GL.want rfl rfl ?_
              refine GL.v Wfa ?_
              refine GL.want rfl rfl ?_
              refine GL.v Wlef ?_
              refine GL.want rfl rfl ?_
              refine GL.v Weq ?_
              refine GL.v Wpf ?_
              refine GL.nil ?_
              refine GE.seq ?_
              refine GC.ifs (fun h7 => ?_) (fun h7 => ?_)
              · -- FffFTfT
                refine GC.region ?_
                refine GL.v Wmv ?_
                refine GL.v Wad ?_
                refine GL.v Wag ?_
                refine GL.nil ?_
                refine GE.seq ?_
                refine GC.seq ?_
                refine GC.region ?_
                refine GL.v Wmv ?_
                refine GL.v Wmv ?_
                refine GL.v Wix ?_
                refine GL.v Wfa ?_
                refine GL.v Wlef ?_
                refine GL.v Weq ?_
                refine GL.nil ?_
                refine GE.seq ?_
                refine GC.ifs (fun h8 => ?_) (fun h8 => ?_)
                · -- FffFTfTT
                  omega
                · -- FffFTfTF
                  refine GC.skip ?_
                  refine GE.block ?_
                  refine GE.seq ?_
                  refine GC.region ?_
                  refine GL.v Wmv ?_
                  refine GL.v Wad ?_
                  refine GL.v Wag ?_
                  refine GL.nil ?_
                  -- round of loop 1, path FffFTfTF
                  refine GE.round (i + 1) (by omega) (by omega) (by rw [numA_yes hil (by simp [isFl, h7]), numA_no (p := isBg) hil (by simp [isBg, h8])]; exact Wkp) Wsb
              · -- FffFTfF
                refine GC.skip ?_
                refine GE.seq ?_
                refine GC.seq ?_
                refine GC.region ?_
                refine GL.v Wmv ?_
                refine GL.v Wmv ?_
                refine GL.v Wix ?_
                refine GL.v Wfa ?_
                refine GL.v Wlef ?_
                refine GL.v Weq ?_
                refine GL.nil ?_
                refine GE.seq ?_
                refine GC.ifs (fun h8 => ?_) (fun h8 => ?_)
                · -- FffFTfFT
                  refine GC.region ?_
                  refine GL.v Wmv ?_
                  refine GL.v Wad ?_
                  refine GL.v Wag ?_
                  refine GL.nil ?_
                  refine GE.block ?_
                  refine GE.seq ?_
                  refine GC.region ?_
                  refine GL.v Wmv ?_
                  refine GL.v Wad ?_
                  refine GL.v Wag ?_
                  refine GL.nil ?_
                  -- round of loop 1, path FffFTfFT
                  refine GE.round (i + 1) (by omega) (by omega) (by rw [numA_no (p := isFl) hil (by simp [isFl, h6, h7]), numA_yes hil (by simp [isBg, h8])]; exact Wkp) Wsb
                · -- FffFTfFF
                  refine GC.skip ?_
                  refine GE.block ?_
                  refine GE.seq ?_
                  refine GC.region ?_
                  refine GL.v Wmv ?_
                  refine GL.v Wad ?_
                  refine GL.v Wag ?_
                  refine GL.nil ?_
                  -- round of loop 1, path FffFTfFF
                  refine GE.round (i + 1) (by omega) (by omega) (by rw [numA_no (p := isFl) hil (by simp [isFl, h6, h7]), numA_no (p := isBg) hil (by simp [isBg, h8])]; exact Wkp) Wsb
          · -- FffFF
            obtain rfl : i = ac20.length := by omega
            refine GC.exit ?_
            refine GE.seq_exit ?_
            refine GE.loop_exit ?_
            refine GE.block_exit ?_
            refine GE.seq ?_
            refine GC.seq ?_
            refine GC.region ?_
            refine GL.v Wlba ?_
            refine GL.v Wmv ?_
            refine GL.call rfl rfl (iBatchAll_spec _ _ _ _ _ (by first | assumption | exact RdG.imp (by assumption) Wim | exact RdG.of_pick Wpk Wpk) _ _ _ Wrd (by first | omega | exact SizeG.le (by assumption)) Wom) ?_
            rintro _ _ ⟨B87, d87, rfl, rfl⟩
            have hbl := batchL_length (gr ms20) ac20
            refine GL.v Wag ?_
            refine GL.nil ?_
            refine GE.seq ?_
            refine GC.seq ?_
            refine GC.seq ?_
            refine GC.region ?_
            refine GL.v Wmv ?_
            refine GL.v Wln ?_
            refine GL.v Wgt ?_
            refine GL.nil ?_
            refine GE.seq ?_
            refine GC.ifs (fun h6 => ?_) (fun h6 => ?_)
            · -- FffFFT
              obtain ⟨hb1, hb2, hb3⟩ := batchL_some (gs := gr ms20) (acts := ac20) (fun h => by rw [h] at h6; simp at h6)
              rw [hb1]
              have hbf := bat_fl hv hb3
              refine GC.seq ?_
              refine GC.region ?_
              refine GL.v Wlba ?_
              refine GL.v Wmv ?_
              refine GL.callF rfl rfl (iFlushesIn_spec _ _ _ _ _ (by first | assumption | exact RdG.imp (by assumption) Wim | exact RdG.of_pick Wpk Wpk) _ _ _ Wrd (by first | omega | exact SizeG.le (by assumption)) Wom) ?_
              rw [hbf.1, hbf.2]
              refine GL.v Wmv ?_
              refine GL.v Wxt ?_
              refine GL.v Wxt ?_
              refine GL.v Wag ?_
              refine GL.v Wag ?_
              refine GL.nil ?_
              refine GE.seq ?_
              refine GC.seq ?_
              refine GC.region ?_
              refine GL.v Wmv ?_
              refine GL.v Wnq ?_
              refine GL.v Wmv ?_
              refine GL.gs (fun h7 => ?_) (fun h7 => ?_)
              · -- FffFFTt
                exact absurd rfl h7
              · -- FffFFTf
                refine GL.want rfl rfl ?_
                refine GL.v Wmv ?_
                refine GL.want rfl rfl ?_
                refine GL.v Wnq ?_
                refine GL.v Wpf ?_
                refine GL.nil ?_
                refine GE.seq ?_
                refine GC.ifs (fun h8 => ?_) (fun h8 => ?_)
                · -- FffFFTfT
                  exact absurd rfl h8
                · -- FffFFTfF
                  refine GC.skip ?_
                  refine GE.seq ?_
                  refine GC.seq ?_
                  refine GC.region ?_
                  refine GL.v Wmv ?_
                  refine GL.v Wmv ?_
                  refine GL.v Wlq ?_
                  refine GL.v Wmv ?_
                  refine GL.gs (fun h9 => ?_) (fun h9 => ?_)
                  · -- FffFFTfFt
                    refine GL.want rfl rfl ?_
                    refine GL.v Wmv ?_
                    refine GL.want rfl rfl ?_
                    refine GL.v Wmv ?_
                    refine GL.want rfl rfl ?_
                    refine GL.v Wlq ?_
                    refine GL.v Wpt ?_
                    refine GL.v Wmv ?_
                    refine GL.gs (fun h10 => ?_) (fun h10 => ?_)
                    · -- FffFFTfFtt
                      refine GL.want rfl rfl ?_
                      refine GL.v Wmv ?_
                      refine GL.want rfl rfl ?_
                      refine GL.v Wgq ?_
                      refine GL.v Wpt ?_
                      refine GL.v Wag ?_
                      refine GL.nil ?_
                      refine GE.seq ?_
                      refine GC.ret ?_
                      -- returns, path FffFFTfFtt
                      refine GE.ret_tmp (L' := L) (.inl rfl) rfl rfl Wsb ?_
                      exact ⟨by rw [decide_eq_true (by omega)], rfl⟩
                    · -- FffFFTfFtf
                      omega
                  · -- FffFFTfFf
                    omega
            · -- FffFFF
              refine GC.skip ?_
              refine GE.seq ?_
              refine GC.seq ?_
              refine GC.region ?_
              refine GL.v Wmv ?_
              refine GL.v Wmv ?_
              refine GL.v Wlq ?_
              refine GL.v Wmv ?_
              refine GL.gs (fun h7 => ?_) (fun h7 => ?_)
              · -- FffFFFt
                refine GL.want rfl rfl ?_
                refine GL.v Wmv ?_
                refine GL.want rfl rfl ?_
                refine GL.v Wmv ?_
                refine GL.want rfl rfl ?_
                refine GL.v Wlq ?_
                refine GL.v Wpt ?_
                refine GL.v Wmv ?_
                refine GL.gs (fun h8 => ?_) (fun h8 => ?_)
                · -- FffFFFtt
                  refine GL.want rfl rfl ?_
                  refine GL.v Wmv ?_
                  refine GL.want rfl rfl ?_
                  refine GL.v Wgq ?_
                  refine GL.v Wpt ?_
                  refine GL.v Wag ?_
                  refine GL.nil ?_
                  refine GE.seq ?_
                  refine GC.ret ?_
                  -- returns, path FffFFFtt
                  refine GE.ret_tmp (L' := L) (.inl rfl) rfl rfl Wsb ?_
                  exact ⟨by rw [decide_eq_true (by omega)], rfl⟩
                · -- FffFFFtf
                  omega
              · -- FffFFFf
                omega
theorem fnFlushesIn_calls {H : Type} {enc : TypeId × Value → H} {W : World} {base : Nat} {args : Array Value} {ds : List (DataW H)} {p : List MemPlace} (hval : ∀ (j : Nat) t v, Try.f5.params[j]? = some t → args[j]? = some v → Value.okWide Try.prog W .any base t v)
    (hA : DataW.TrodAll enc Try.prog W 0 (fun _ => true) true Try.f5.params.toList args.toList ds p) : Tr Try.prog 5 args W [] (fun v L' => v = .bool true ∧ L' = []) := by
  rw [Try.params5] at hA hval
  obtain ⟨v0, vs0, d0, ds0, p0, q0, hargs, rfl, rfl, h0, r0⟩ := trodAll_cons hA
  obtain ⟨rfl, rfl, rfl⟩ := trodAll_nil r0
  obtain rfl : args = #[v0] := by cases args; simp_all
  obtain ⟨A, c, bs, rfl, hR, hb⟩ := arg_sl (E := byteE) (st := 22) (by kernel_rfl) (opens_bytes W) (hval 0 _ v0 rfl rfl) h0
  exact FnFlushesIn_spec W [] A c bs hR (fun x hx => wf_u8 (hb x hx))
theorem fnFlushesIn_lifted (os : Os) (started : os.Started) (H : Type) (enc : TypeId × Value → H) :
    ReturnsInHanded {} Try.checked os 5 .any (Ytllepoepfkobfaa.Rows.fnFlushesInSpec.pre6 enc Try.prog Try.f5 Ytllepoepfkobfaa.Rows.fnFlushesInRow.domain false) (Ytllepoepfkobfaa.Rows.fnFlushesInSpec.post enc Try.prog Try.f5 false true false false) := by
  refine returnsInHanded_of_change (C := Try.checked) own started (by kernel_rfl) Try.func5
    (ChangeSpec.witness6 (enc := enc) (C := Try.checked) false ⟨#[], #[.slice none 0 0], []⟩ 8 (by kernel_rfl) (by kernel_rfl) (by kernel_rfl) (by kernel_rfl)) ?_
  intro W base args ds gs before hval0 hW hcnd _
  have hval : ∀ (j : Nat) t v, Try.f5.params[j]? = some t → args[j]? = some v → Value.okWide Try.prog W .any base t v := hval0
  have hW' := hW
  obtain ⟨p, q, hA0, _⟩ := hW
  have hA : DataW.TrodAll enc Try.prog W 0 (fun _ => true) true Try.f5.params.toList args.toList ds p := hA0
  have hlen : ds.length = Try.f5.params.toList.length := trodAll_len hA
  rw [Try.params5] at hlen
  refine ((fnFlushesIn_calls hval hA).go W (St.start W)).mono ?_
  rintro e W' ⟨v, L', ⟨rfl, rfl⟩, rfl, hs⟩
  exact ⟨_, rfl, law_post kids full (by rw [Try.params5]; decide) hW' rfl (fun hg => by subst hg; match ds, hlen with | [_], _ => exact bool_res) (fun hg => by subst hg; match ds, hlen with | [_], _ => rfl) (fun hg => by subst hg; match ds, hlen with | [_], _ => rfl) hs.below⟩
theorem fnFlushesIn_over : Ytllepoepfkobfaa.Rows.fnFlushesInRow.holds Try.pinned (OpenSpec.ofChange Ytllepoepfkobfaa.Rows.fnFlushesInSpec) :=
  OpenClaim.holds_of_wide 5 Try.f5 rfl rfl rfl rfl rfl rfl rfl ⟨rfl, rfl, rfl, rfl, rfl⟩ rfl rfl rfl rfl rfl (by kernel_rfl) Try.func5 (by kernel_rfl)
    (of_decide_eq_true (by kernel_rfl)) (by unfold Func.isWrapper; first | (rw [if_pos (by decide +kernel)]; kernel_rfl) | (rw [if_neg (by decide +kernel)]; exact ⟨rfl, rfl⟩))
    (fun os started H enc _ => fnFlushesIn_lifted os started H enc)
end SG
namespace Go.Proofs.Ytllepoepfkobfaa
theorem fnFlushesIn_proved : Rows.FnFlushesInSaid := SG.fnFlushesIn_over
end Go.Proofs.Ytllepoepfkobfaa
#print axioms Go.Proofs.Ytllepoepfkobfaa.fnFlushesIn_proved
