/- The law FnMustRun holds for every input. -/
import Derived.Test.YtojffodplphlaaaD13
import Derived.Test.YtojffodplphlaaaD22
import Derived.Test.YtojffodplphlaaaD36
import Derived.Test.YtojffodplphlaaaD38
import Derived.Test.YtojffodplphlaaaRows
namespace SG
open Go Go.RowKit Go.Proofs Go.Proofs.Ytojffodplphlaaa Go.ChangeShapes Go.WideShapes Go.Deep
set_option linter.unusedVariables false
set_option linter.unusedSimpArgs false
set_option maxRecDepth 100000
theorem FnMustRun_spec (w0 : World) (L : List Asn) (A : Option Addr) (c : Nat) (bs : List Int) (hR : Rd w0 [] byteE A c bs) (hb : ∀ x ∈ bs, 0 ≤ x ∧ x ≤ 255) :
    Tr Try.prog 8 #[.slice A bs.length c] w0 L (fun v L' => v = .bool true ∧ L' = L) := by
  refine Tr.rd_cap (hR.imp Imp.nil) fun hc1 hc2 => ?_
  refine Tr.enter (args := [.slice A bs.length c]) Try.func8 Try.ntmps8 rfl rfl ?_
  refine GC.seq ?_
  refine GC.region ?_
  refine GL.v Wag ?_
  refine GL.nil ?_
  refine GE.seq ?_
  refine GC.seq ?_
  refine GC.seq ?_
  refine GC.region ?_
  refine GL.v Wmv ?_
  refine GL.v Wln ?_
  refine GL.v Wgt ?_
  refine GL.nil ?_
  refine GE.seq ?_
  refine GC.ifs (fun h1 => ?_) (fun h1 => ?_)
  · -- T
    refine GC.seq ?_
    refine GC.region ?_
    refine GL.v Wag ?_
    refine GL.nil ?_
    refine GE.seq ?_
    refine GC.ret ?_
    refine GE.seq_ret ?_
    -- returns, path T
    refine GE.ret_tmp (L' := L) (.inl rfl) rfl rfl Wsb ?_
    exact ⟨rfl, rfl⟩
  · -- F
    refine GC.skip ?_
    refine GE.seq ?_
    refine GC.seq ?_
    refine GC.region ?_
    refine GL.v Wmv ?_
    refine GL.call rfl rfl (DrawMustRun_spec _ _ _ _ _ (by assumption) (by assumption) (by omega) (by omega)) ?_
    rintro _ _ ⟨D14, e14, ms14, B14, d14, xs14, E14, f14, ys14, rfl, ms14a, ms14b, ms14c, xs14a, ys14a, rfl⟩
    have hS14 := SizeG.small ms14b ms14c
    refine GL.v Wmv ?_
    refine GL.v Wxt ?_
    refine GL.v Wxt ?_
    refine GL.v Wxt ?_
    refine GL.alloc rfl ?_; intro g3
    refine GL.store_varN rfl rfl rfl Wpk (by rfl) (by rfl) (by rfl) ?_
    refine GL.v Wag ?_
    refine GL.v Wag ?_
    refine GL.nil ?_
    refine GE.seq ?_
    refine GC.seq ?_
    refine GC.region ?_
    refine GL.v Wlba ?_
    refine GL.v Wmv ?_
    refine GL.v Wmv ?_
    refine GL.call rfl rfl (iMustRun_spec _ _ _ _ _ (by first | assumption | exact RdG.imp (by assumption) Wim | exact RdG.of_pick Wpk Wpk) _ _ _ Wrd _ _ _ Wrd (by first | omega | exact SizeG.le (by assumption)) Wom Wom) ?_
    rintro _ _ ⟨B21, d21, rfl, rfl⟩
    have hten := mustL_ten (gr ms14) xs14 ys14
    refine GL.v Wag ?_
    refine GL.nil ?_
    refine GE.seq ?_
    refine GC.seq ?_
    refine GC.seq ?_
    refine GC.region ?_
    refine GL.v Wmv ?_
    refine GL.v Wlba ?_
    refine GL.v Wmv ?_
    refine GL.v Wmv ?_
    refine GL.call rfl rfl (sMustRun_spec _ _ _ _ _ (by first | assumption | exact RdG.imp (by assumption) Wim | exact RdG.of_pick Wpk Wpk) _ _ _ Wrd _ _ _ Wrd (by assumption) Wom Wom) ?_
    rintro _ _ ⟨B26, d26, rfl, rfl⟩
    refine GL.callF rfl rfl (equalInts_spec _ _ _ _ _ Wrd _ _ _ Wrd Wom) ?_
    refine GL.v Wnt ?_
    refine GL.v Wmv ?_
    refine GL.gs (fun h2 => ?_) (fun h2 => ?_)
    · -- Ft
      exact absurd rfl h2
    · -- Ff
      refine GL.want rfl rfl ?_
      refine GL.v Wlba ?_
      refine GL.want rfl rfl ?_
      refine GL.v Wmv ?_
      refine GL.want rfl rfl ?_
      refine GL.callF rfl rfl (iValidCells_spec _ _ _ _ _ (by first | assumption | exact RdG.imp (by assumption) Wim | exact RdG.of_pick Wpk Wpk) _ _ _ Wrd (by first | omega | exact SizeG.le (by assumption)) Wom) ?_
      refine GL.want rfl rfl ?_
      refine GL.v Wnt ?_
      refine GL.v Wpf ?_
      refine GL.v Wmv ?_
      refine GL.gs (fun h3 => ?_) (fun h3 => ?_)
      · -- Fft
        refine GL.unwant rfl rfl rfl rfl ?_
        refine GL.unwant rfl rfl rfl rfl ?_
        refine GL.unwant rfl rfl rfl rfl ?_
        refine GL.unwant rfl rfl rfl rfl ?_
        refine GL.v Wpt ?_
        refine GL.nil ?_
        refine GE.seq ?_
        refine GC.cond_true rfl ?_
        refine GC.seq ?_
        refine GC.region ?_
        refine GL.v Wmv ?_
        refine GL.v Wlba ?_
        refine GL.v Wmv ?_
        refine GL.v Wmv ?_
        refine GL.call rfl rfl (sMustRun_spec _ _ _ _ _ (by first | assumption | exact RdG.imp (by assumption) Wim | exact RdG.of_pick Wpk Wpk) _ _ _ Wrd _ _ _ Wrd (by assumption) Wom Wom) ?_
        rintro _ _ ⟨B45, d45, rfl, rfl⟩
        refine GL.callF rfl rfl (equalInts_spec _ _ _ _ _ Wrd _ _ _ Wrd Wom) ?_
        refine GL.v Wag ?_
        refine GL.nil ?_
        refine GE.seq ?_
        refine GC.ret ?_
        refine GE.seq_ret ?_
        -- returns, path Fft
        refine GE.ret_tmp (L' := L) (.inl rfl) rfl rfl Wsb ?_
        exact ⟨by simp, rfl⟩
      · -- Fff
        refine GL.want rfl rfl ?_
        refine GL.v Wlba ?_
        refine GL.want rfl rfl ?_
        refine GL.v Wmv ?_
        refine GL.want rfl rfl ?_
        refine GL.callF rfl rfl (iValidCells_spec _ _ _ _ _ (by first | assumption | exact RdG.imp (by assumption) Wim | exact RdG.of_pick Wpk Wpk) _ _ _ Wrd (by first | omega | exact SizeG.le (by assumption)) Wom) ?_
        refine GL.want rfl rfl ?_
        refine GL.v Wnt ?_
        refine GL.v Wpf ?_
        refine GL.nil ?_
        refine GE.seq ?_
        refine GC.ifs (fun h4 => ?_) (fun h4 => ?_)
        · -- FffT
          refine GC.seq ?_
          refine GC.region ?_
          refine GL.v Wmv ?_
          refine GL.v Wlba ?_
          refine GL.v Wmv ?_
          refine GL.v Wmv ?_
          refine GL.call rfl rfl (sMustRun_spec _ _ _ _ _ (by first | assumption | exact RdG.imp (by assumption) Wim | exact RdG.of_pick Wpk Wpk) _ _ _ Wrd _ _ _ Wrd (by assumption) Wom Wom) ?_
          rintro _ _ ⟨B45, d45, rfl, rfl⟩
          refine GL.callF rfl rfl (equalInts_spec _ _ _ _ _ Wrd _ _ _ Wrd Wom) ?_
          refine GL.v Wag ?_
          refine GL.nil ?_
          refine GE.seq ?_
          refine GC.ret ?_
          refine GE.seq_ret ?_
          -- returns, path FffT
          refine GE.ret_tmp (L' := L) (.inl rfl) rfl rfl Wsb ?_
          exact ⟨by simp, rfl⟩
        · -- FffF
          have hC1 : cellsV (gr ms14) xs14 = true := h3
          have hC2 : cellsV (gr ms14) ys14 = true := h4
          have hxl := (cellsV_len hC1).1
          have hyl := (cellsV_len hC2).1
          rw [gr_length] at hxl hyl
          have hasc := mustL_asc (gr ms14) xs14 ys14
          have hdl := diffL_length (gr ms14) xs14 ys14
          rw [gr_length] at hdl
          refine GC.skip ?_
          refine GE.seq ?_
          refine GC.seq ?_
          refine GC.region ?_
          refine GL.v Wlba ?_
          refine GL.v Wmv ?_
          refine GL.v Wmv ?_
          refine GL.call rfl rfl (iChangedBy_spec _ _ _ _ _ (by first | assumption | exact RdG.imp (by assumption) Wim | exact RdG.of_pick Wpk Wpk) _ _ _ Wrd _ _ _ Wrd (by first | omega | exact SizeG.le (by assumption)) Wom Wom) ?_
          rintro _ _ ⟨B50, d50, rfl, rfl⟩
          rw [diffOfL_yes hC1 hC2]
          refine GL.v Wag ?_
          refine GL.nil ?_
          refine GE.seq ?_
          refine GC.seq ?_
          refine GC.seq ?_
          refine GC.region ?_
          refine GL.v Wag ?_
          refine GL.nil ?_
          refine GE.seq ?_
          refine GC.block ?_
          -- loop 1: carried slots [8]
          refine GC.loopK (α := Nat) (fun k => k ≤ (diffL (gr ms14) xs14 ys14).length) (fun k => [(8, .int .i64 k)]) [(3, _), (4, _), (6, _), (7, _)] (fun k => row intE B50 d50 (diffL (gr ms14) xs14 ys14) :: row intE B21 d21 (mustL (gr ms14) xs14 ys14) :: blk g3 25 [.slice D14 ms14.length e14] :: row nodeE D14 e14 ms14 :: partsA ms14 :: row intE B14 d14 xs14 :: row intE E14 f14 ys14 :: L) (fun k => (diffL (gr ms14) xs14 ys14).length - k) 0 Wkp Wsb (Nat.zero_le _) ?_
          rintro k hk
          refine GC.seq ?_
          refine GC.seq ?_
          refine GC.region ?_
          refine GL.v Wmv ?_
          refine GL.v Wmv ?_
          refine GL.v Wln ?_
          refine GL.v Wls ?_
          refine GL.nil ?_
          refine GE.seq ?_
          refine GC.ifs (fun h5 => ?_) (fun h5 => ?_)
          · -- FffFT
            have hkl : k < (diffL (gr ms14) xs14 ys14).length := by omega
            have hat := diffL_at hkl
            rw [gr_length] at hat
            have hki : kindAt (gr ms14) (diffL (gr ms14) xs14 ys14)[k] = (ms14[((diffL (gr ms14) xs14 ys14)[k]).toNat]'(by omega)).kind := kindAt_gr (by omega)
            refine GC.skip ?_
            refine GE.seq ?_
            refine GC.seq ?_
            refine GC.block ?_
            refine GC.seq ?_
            refine GC.region_quiet mixed (by kernel_rfl) ?_
            refine GL.v Wfa ?_
            refine GL.v Wlb ?_
            refine GL.v Wmv ?_
            refine GL.v Wmv ?_
            refine GL.v Wix ?_
            refine GL.v Wle ?_
            refine GL.v Wix ?_
            refine GL.v Wfa ?_
            refine GL.v Wlef ?_
            refine GL.v Wnq ?_
            refine GL.v Wmv ?_
            refine GL.gs (fun h6 => ?_) (fun h6 => ?_)
            · -- FffFTt
              refine GL.want rfl rfl ?_
              refine GL.v Wmv ?_
              refine GL.want rfl rfl ?_
              refine GL.v Wmv ?_
              refine GL.want rfl rfl ?_
              refine GL.v Wmv ?_
              refine GL.want rfl rfl ?_
              refine GL.v Wix ?_
              refine GL.want rfl rfl ?_
              refine GL.v Wle ?_
              refine GL.want rfl rfl ?_
              refine GL.callF rfl rfl (isIn_spec _ _ _ _ _ Wrd _ Wom) ?_
              refine GL.want rfl rfl ?_
              refine GL.v Wnt ?_
              refine GL.v Wpt ?_
              refine GL.nil ?_
              refine GE.seq ?_
              refine GC.ifs (fun h7 => ?_) (fun h7 => ?_)
              · -- FffFTtT
                have hmk := must_kind hC1 hC2 hkl (by rw [hki]; exact h6); exact absurd hmk (by simpa using h7)
              · -- FffFTtF
                refine GC.skip ?_
                refine GE.block ?_
                refine GE.seq ?_
                refine GC.region ?_
                refine GL.v Wmv ?_
                refine GL.v Wad ?_
                refine GL.v Wag ?_
                refine GL.nil ?_
                -- round of loop 1, path FffFTtF
                refine GE.round (k + 1) (by omega) (by omega) Wkp Wsb
            · -- FffFTf
              refine GL.unwant rfl rfl rfl rfl ?_
              refine GL.unwant rfl rfl rfl rfl ?_
              refine GL.unwant rfl rfl rfl rfl ?_
              refine GL.unwant rfl rfl rfl rfl ?_
              refine GL.unwant rfl rfl rfl rfl ?_
              refine GL.unwant rfl rfl rfl rfl ?_
              refine GL.unwant rfl rfl rfl rfl ?_
              refine GL.v Wpf ?_
              refine GL.nil ?_
              refine GE.seq ?_
              refine GC.cond_false rfl ?_
              refine GC.skip ?_
              refine GE.block ?_
              refine GE.seq ?_
              refine GC.region ?_
              refine GL.v Wmv ?_
              refine GL.v Wad ?_
              refine GL.v Wag ?_
              refine GL.nil ?_
              -- round of loop 1, path FffFTf
              refine GE.round (k + 1) (by omega) (by omega) Wkp Wsb
          · -- FffFF
            refine GC.exit ?_
            refine GE.seq_exit ?_
            refine GE.loop_exit ?_
            refine GE.block_exit ?_
            refine GE.seq ?_
            refine GC.seq ?_
            refine GC.region ?_
            refine GL.v Wmv ?_
            refine GL.callF rfl rfl (ascends_spec _ _ _ _ _ Wrd Wom (by first | assumption | exact asc_mayL _)) ?_
            refine GL.v Wmv ?_
            refine GL.gs (fun h6 => ?_) (fun h6 => ?_)
            · -- FffFFt
              refine GL.want rfl rfl ?_
              refine GL.v Wlba ?_
              refine GL.want rfl rfl ?_
              refine GL.v Wmv ?_
              refine GL.want rfl rfl ?_
              refine GL.v Wmv ?_
              refine GL.want rfl rfl ?_
              refine GL.call rfl rfl (iMustRun_spec _ _ _ _ _ (by first | assumption | exact RdG.imp (by assumption) Wim | exact RdG.of_pick Wpk Wpk) _ _ _ Wrd _ _ _ Wrd (by first | omega | exact SizeG.le (by assumption)) Wom Wom) ?_
              rintro _ _ ⟨B82, d82, rfl, rfl⟩
              refine GL.want rfl rfl ?_
              refine GL.v Wln ?_
              refine GL.want rfl rfl ?_
              refine GL.v Weq ?_
              refine GL.v Wpt ?_
              refine GL.v Wag ?_
              refine GL.nil ?_
              refine GE.seq ?_
              refine GC.ret ?_
              -- returns, path FffFFt
              refine GE.ret_tmp (L' := L) (.inl rfl) rfl rfl Wsb ?_
              exact ⟨by rw [mustL_same]; rfl, rfl⟩
            · -- FffFFf
              cases h6
theorem fnMustRun_calls {H : Type} {enc : TypeId × Value → H} {W : World} {base : Nat} {args : Array Value} {ds : List (DataW H)} {p : List MemPlace} (hval : ∀ (j : Nat) t v, Try.f8.params[j]? = some t → args[j]? = some v → Value.okWide Try.prog W .any base t v)
    (hA : DataW.TrodAll enc Try.prog W 0 (fun _ => true) true Try.f8.params.toList args.toList ds p) : Tr Try.prog 8 args W [] (fun v L' => v = .bool true ∧ L' = []) := by
  rw [Try.params8] at hA hval
  obtain ⟨v0, vs0, d0, ds0, p0, q0, hargs, rfl, rfl, h0, r0⟩ := trodAll_cons hA
  obtain ⟨rfl, rfl, rfl⟩ := trodAll_nil r0
  obtain rfl : args = #[v0] := by cases args; simp_all
  obtain ⟨A, c, bs, rfl, hR, hb⟩ := arg_sl (E := byteE) (st := 22) (by kernel_rfl) (opens_bytes W) (hval 0 _ v0 rfl rfl) h0
  exact FnMustRun_spec W [] A c bs hR (fun x hx => wf_u8 (hb x hx))
theorem fnMustRun_lifted (os : Os) (started : os.Started) (H : Type) (enc : TypeId × Value → H) :
    ReturnsInHanded {} Try.checked os 8 .any (Ytojffodplphlaaa.Rows.fnMustRunSpec.pre6 enc Try.prog Try.f8 Ytojffodplphlaaa.Rows.fnMustRunRow.domain false) (Ytojffodplphlaaa.Rows.fnMustRunSpec.post enc Try.prog Try.f8 false true false false) := by
  refine returnsInHanded_of_change (C := Try.checked) own started (by kernel_rfl) Try.func8
    (ChangeSpec.witness6 (enc := enc) (C := Try.checked) false ⟨#[], #[.slice none 0 0], []⟩ 8 (by kernel_rfl) (by kernel_rfl) (by kernel_rfl) (by kernel_rfl)) ?_
  intro W base args ds gs before hval0 hW hcnd _
  have hval : ∀ (j : Nat) t v, Try.f8.params[j]? = some t → args[j]? = some v → Value.okWide Try.prog W .any base t v := hval0
  have hW' := hW
  obtain ⟨p, q, hA0, _⟩ := hW
  have hA : DataW.TrodAll enc Try.prog W 0 (fun _ => true) true Try.f8.params.toList args.toList ds p := hA0
  have hlen : ds.length = Try.f8.params.toList.length := trodAll_len hA
  rw [Try.params8] at hlen
  refine ((fnMustRun_calls hval hA).go W (St.start W)).mono ?_
  rintro e W' ⟨v, L', ⟨rfl, rfl⟩, rfl, hs⟩
  exact ⟨_, rfl, law_post kids full (by rw [Try.params8]; decide) hW' rfl (fun hg => by subst hg; match ds, hlen with | [_], _ => exact bool_res) (fun hg => by subst hg; match ds, hlen with | [_], _ => rfl) (fun hg => by subst hg; match ds, hlen with | [_], _ => rfl) hs.below⟩
theorem fnMustRun_over : Ytojffodplphlaaa.Rows.fnMustRunRow.holds Try.pinned (OpenSpec.ofChange Ytojffodplphlaaa.Rows.fnMustRunSpec) :=
  OpenClaim.holds_of_wide 8 Try.f8 rfl rfl rfl rfl rfl rfl rfl ⟨rfl, rfl, rfl, rfl, rfl⟩ rfl rfl rfl rfl rfl (by kernel_rfl) Try.func8 (by kernel_rfl)
    (of_decide_eq_true (by kernel_rfl)) (by unfold Func.isWrapper; first | (rw [if_pos (by decide +kernel)]; kernel_rfl) | (rw [if_neg (by decide +kernel)]; exact ⟨rfl, rfl⟩))
    (fun os started H enc _ => fnMustRun_lifted os started H enc)
end SG
namespace Go.Proofs.Ytojffodplphlaaa
theorem fnMustRun_proved : Rows.FnMustRunSaid := SG.fnMustRun_over
end Go.Proofs.Ytojffodplphlaaa
#print axioms Go.Proofs.Ytojffodplphlaaa.fnMustRun_proved
