/- The law FnStartLazy holds for every input. -/
import Derived.Test.YtllepoepfkobfaaD13
import Derived.Test.YtllepoepfkobfaaD19
import Derived.Test.YtllepoepfkobfaaD62
import Derived.Test.YtllepoepfkobfaaRows
namespace SG
open Go Go.RowKit Go.Proofs Go.Proofs.Ytllepoepfkobfaa Go.ChangeShapes Go.WideShapes Go.Deep
set_option linter.unusedVariables false
set_option linter.unusedSimpArgs false
set_option maxRecDepth 100000
theorem FnStartLazy_spec (w0 : World) (L : List Asn) (A : Option Addr) (c : Nat) (bs : List Int) (hR : Rd w0 [] byteE A c bs) (hb : ∀ x ∈ bs, 0 ≤ x ∧ x ≤ 255) :
    Tr Try.prog 10 #[.slice A bs.length c] w0 L (fun v L' => v = .bool true ∧ L' = L) := by
  refine Tr.rd_cap (hR.imp Imp.nil) fun hc1 hc2 => ?_
  refine Tr.enter (args := [.slice A bs.length c]) Try.func10 Try.ntmps10 rfl rfl ?_
  refine GC.seq ?_
  refine GC.region ?_
  refine GL.v Wag ?_
  refine GL.nil ?_
  refine GE.seq ?_
  refine GC.seq ?_
  refine GC.seq ?_
  refine GC.region ?_
  refine GL.v Wmv ?_
  refine GL.v Wln ?_
  refine GL.v Wgt ?_
  refine GL.nil ?_
  refine GE.seq ?_
  refine GC.ifs (fun h1 => ?_) (fun h1 => ?_)
  · -- T
    refine GC.seq ?_
    refine GC.region ?_
    refine GL.v Wag ?_
    refine GL.nil ?_
    refine GE.seq ?_
    refine GC.ret ?_
    refine GE.seq_ret ?_
    -- returns, path T
    refine GE.ret_tmp (L' := L) (.inl rfl) rfl rfl Wsb ?_
    exact ⟨rfl, rfl⟩
  · -- F
    refine GC.skip ?_
    refine GE.seq ?_
    refine GC.seq ?_
    refine GC.region ?_
    refine GL.v Wmv ?_
    refine GL.call rfl rfl (DrawStartLazy_spec _ _ _ _ _ (by assumption) (by assumption) (by omega) (by omega)) ?_
    rintro _ _ ⟨D13, e13, ms13, B13, d13, xs13, rfl, ms13a, ms13b, ms13c, xs13a, xs13b, rfl⟩
    have hS13 := SizeG.small ms13b ms13c
    refine GL.v Wmv ?_
    refine GL.v Wxt ?_
    refine GL.v Wxt ?_
    refine GL.alloc rfl ?_; intro g3
    refine GL.store_varN rfl rfl rfl Wpk (by rfl) (by rfl) (by rfl) ?_
    refine GL.v Wag ?_
    refine GL.nil ?_
    refine GE.seq ?_
    refine GC.seq ?_
    refine GC.region ?_
    refine GL.v Wlba ?_
    refine GL.v Wmv ?_
    refine GL.call rfl rfl (iStartLazy_spec _ _ _ _ _ (by first | assumption | exact RdG.imp (by assumption) Wim | exact RdG.of_pick Wpk Wpk) _ _ _ Wrd (by first | omega | exact SizeG.le (by assumption)) Wom) ?_
    rintro _ _ ⟨X18, x18, R18, r18, ls18, S18, s18, hli18, rfl, rfl⟩
    have hZ18 := sizeLs_laz hli18
    have hten := lazX_ten (gr ms13) xs13
    have hten2 := lazS_ten (gr ms13) xs13
    refine GL.alloc rfl ?_; intro g5
    refine GL.store_varN rfl rfl rfl Wpk (by rfl) (by rfl) (by rfl) ?_
    refine GL.nil ?_
    refine GE.seq ?_
    refine GC.seq ?_
    refine GC.seq ?_
    refine GC.region_any #[false, false, false, true, true, false, false, false, false, true, false, false] mixed ?_
    refine GA.read 0 #[false, true, true, true, false, false, false, false, false, false, false, false] rfl (by exact Wlba) rfl rfl (by kernel_rfl) rfl (by kernel_rfl) (by kernel_rfl) (fun _ _ _ h => h) ?_
    refine GA.read 1 #[true, false, true, false, false, false, false, false, false, false, false, false] rfl (by exact Wlba) rfl rfl (by kernel_rfl) rfl (by kernel_rfl) (by kernel_rfl) (fun _ _ _ h => h) ?_
    refine GA.take 2 #[true, true, false, false, false, false, false, false, false, false, false, false] rfl (by exact Ev.move rfl) rfl rfl (by kernel_rfl) rfl (by kernel_rfl) (by kernel_rfl) (fun _ _ _ h => h) ?_
    refine GA.branch (rs := [3]) (JOk.live (by exact Wlba) (JOk.live (by exact Wlba) JOk.nil)) (by kernel_rfl) (by simp) ?_
    refine GAs.cons rfl ?_ ?_
    · -- F op 3
      refine GL.call rfl rfl (sStartLazy_spec _ _ _ _ _ (by first | assumption | exact RdG.imp (by assumption) Wim | exact RdG.of_pick Wpk Wpk) _ _ _ Wrd (by assumption) Wom) ?_
      rintro _ _ ⟨X22, x22, R22, r22, ls22, S22, s22, hli22, rfl, rfl⟩
      have hZ22 := sizeLs_laz hli22
      refine GL.nil ?_
      refine GE.any ?_
      refine GA.branch (rs := [4]) (JOk.dead (by kernel_rfl) (JOk.live (by exact Wlba) JOk.nil)) (by kernel_rfl) (by simp) ?_
      refine GAs.cons rfl ?_ ?_
      · -- F op 4
        refine GL.callF rfl rfl (equalLazy_spec _ _ _ _ _ Wrd _ _ _ (by first | assumption | exact RdLs.imp (by assumption) Wim | exact RdLs.of_pick Wpk Wpk) _ _ _ Wrd _ _ _ Wrd _ _ _ (by first | assumption | exact RdLs.imp (by assumption) Wim | exact RdLs.of_pick Wpk Wpk) _ _ _ Wrd Wom (by assumption) Wom) ?_
        refine GL.nil ?_
        refine GE.any ?_
        refine GA.take 5 #[true, true, true, true, true, false, false, false, false, false, false, false] rfl (by exact Ev.not rfl) rfl rfl (by kernel_rfl) rfl (by kernel_rfl) (by kernel_rfl) (fun _ _ _ h => h) ?_
        refine GA.take 6 #[true, true, true, true, true, true, false, false, false, false, false, false] rfl (by exact Ev.move rfl) rfl rfl (by kernel_rfl) rfl (by kernel_rfl) (by kernel_rfl) (fun _ _ _ h => h) ?_
        first | refine GA.split_dec (d := 25) rfl (fun h2 => ?_) (fun h2 => ?_) | refine GA.split_ndec (d := 25) rfl (fun h2 => ?_) (fun h2 => ?_) | refine GA.split (d := 25) rfl (fun h2 => ?_) (fun h2 => ?_)
        · -- Ft
          exact absurd ⟨rfl, hli18.trans hli22.symm, rfl⟩ h2
        · -- Ff
          refine GA.read_want 7 #[true, true, true, true, true, true, true, false, true, false, false, false] rfl rfl rfl (by exact Wlba) rfl (by kernel_rfl) rfl (by kernel_rfl) (by kernel_rfl) (fun _ _ _ h => h) ?_
          refine GA.take_want 8 #[true, true, true, true, true, true, true, true, false, false, false, false] rfl rfl rfl (by exact Ev.move rfl) rfl (by kernel_rfl) rfl (by kernel_rfl) (by kernel_rfl) (fun _ _ _ h => h) ?_
          refine GA.branch (rs := [9]) (JOk.live (by exact Wlba) (JOk.dead (by kernel_rfl) (JOk.dead (by kernel_rfl) JOk.nil))) (by kernel_rfl) (by simp) ?_
          refine GAs.cons rfl ?_ ?_
          · -- Ff op 9
            refine GL.want rfl rfl ?_
            refine GL.callF rfl rfl (iValidCells_spec _ _ _ _ _ (by first | assumption | exact RdG.imp (by assumption) Wim | exact RdG.of_pick Wpk Wpk) _ _ _ Wrd (by first | omega | exact SizeG.le (by assumption)) Wom) ?_
            refine GL.nil ?_
            refine GE.any ?_
            refine GA.take_want 10 #[true, true, true, true, true, true, true, true, true, true, false, false] rfl rfl rfl (by exact Ev.not rfl) rfl (by kernel_rfl) rfl (by kernel_rfl) (by kernel_rfl) (fun _ _ _ h => h) ?_
            refine GA.take 11 #[true, true, true, true, true, true, true, true, true, true, true, false] rfl (by exact Ev.pick_false rfl rfl) rfl rfl (by kernel_rfl) rfl (by kernel_rfl) (by kernel_rfl) (fun _ _ _ h => h) ?_
            refine GA.done (JOk.dead (by kernel_rfl) (JOk.dead (by kernel_rfl) (JOk.dead (by kernel_rfl) JOk.nil))) (by kernel_rfl) ?_
            refine GE.seq ?_
            refine GC.ifs (fun h3 => ?_) (fun h3 => ?_)
            · -- FfT
              refine GC.seq ?_
              refine GC.region_any #[false, false, false, true, true, false] mixed ?_
              refine GA.read 0 #[false, true, true, true, false, false] rfl (by exact Wlba) rfl rfl (by kernel_rfl) rfl (by kernel_rfl) (by kernel_rfl) (fun _ _ _ h => h) ?_
              refine GA.read 1 #[true, false, true, false, false, false] rfl (by exact Wlba) rfl rfl (by kernel_rfl) rfl (by kernel_rfl) (by kernel_rfl) (fun _ _ _ h => h) ?_
              refine GA.take 2 #[true, true, false, false, false, false] rfl (by exact Ev.move rfl) rfl rfl (by kernel_rfl) rfl (by kernel_rfl) (by kernel_rfl) (fun _ _ _ h => h) ?_
              refine GA.branch (rs := [3]) (JOk.live (by exact Wlba) (JOk.live (by exact Wlba) JOk.nil)) (by kernel_rfl) (by simp) ?_
              refine GAs.cons rfl ?_ ?_
              · -- FfT op 3
                refine GL.call rfl rfl (sStartLazy_spec _ _ _ _ _ (by first | assumption | exact RdG.imp (by assumption) Wim | exact RdG.of_pick Wpk Wpk) _ _ _ Wrd (by assumption) Wom) ?_
                rintro _ _ ⟨X34, x34, R34, r34, ls34, S34, s34, hli34, rfl, rfl⟩
                have hZ34 := sizeLs_laz hli34
                refine GL.nil ?_
                refine GE.any ?_
                refine GA.branch (rs := [4]) (JOk.dead (by kernel_rfl) (JOk.live (by exact Wlba) JOk.nil)) (by kernel_rfl) (by simp) ?_
                refine GAs.cons rfl ?_ ?_
                · -- FfT op 4
                  refine GL.callF rfl rfl (equalLazy_spec _ _ _ _ _ Wrd _ _ _ (by first | assumption | exact RdLs.imp (by assumption) Wim | exact RdLs.of_pick Wpk Wpk) _ _ _ Wrd _ _ _ Wrd _ _ _ (by first | assumption | exact RdLs.imp (by assumption) Wim | exact RdLs.of_pick Wpk Wpk) _ _ _ Wrd Wom (by assumption) Wom) ?_
                  refine GL.nil ?_
                  refine GE.any ?_
                  refine GA.take 5 #[true, true, true, true, true, false] rfl (by exact Ev.assign rfl) rfl rfl (by kernel_rfl) rfl (by kernel_rfl) (by kernel_rfl) (fun _ _ _ h => h) ?_
                  refine GA.done (JOk.dead (by kernel_rfl) (JOk.dead (by kernel_rfl) JOk.nil)) (by kernel_rfl) ?_
                  refine GE.seq ?_
                  refine GC.ret ?_
                  refine GE.seq_ret ?_
                  -- returns, path FfT
                  refine GE.ret_tmp (L' := L) (.inl rfl) rfl rfl Wsb ?_
                  exact ⟨by rw [decide_eq_true ⟨rfl, hli18.trans hli34.symm, rfl⟩], rfl⟩
                exact GAs.nil
              exact GAs.nil
            · -- FfF
              have hC : cellsV (gr ms13) xs13 = true := h3
              have hli : li ls18 = List.replicate ms13.length [] := by rw [hli18, lazR_yes hC, gr_length]
              rw [lazX_yes hC, lazS_yes hC]
              have hxl := (cellsV_len hC).1
              rw [gr_length] at hxl
              refine GC.skip ?_
              refine GE.seq ?_
              refine GC.seq ?_
              refine GC.region ?_
              refine GL.v Wlba ?_
              refine GL.v Wlba ?_
              refine GL.call rfl rfl (StaleOf_spec w0 _ _ _ xs13 (Rd.of_pick Wpk) _ _ ls18 (RdLs.of_pick Wpk Wpk) _ _ _ _ ms13 (by first | assumption | exact RdG.imp (by assumption) Wim | exact RdG.of_pick Wpk Wpk) (Rd.of_pick Wpk) hC hli) ?_
              rintro _ _ ⟨F38, rfl, rfl⟩
              have hwl := whichL_length ms13.length (fun i => decide (stS (gr ms13) i ≠ 0))
              refine GL.v Wag ?_
              refine GL.nil ?_
              refine GE.seq ?_
              refine GC.seq ?_
              refine GC.seq ?_
              refine GC.region ?_
              refine GL.v Wag ?_
              refine GL.nil ?_
              refine GE.seq ?_
              refine GC.block ?_
              -- loop 1: carried slots [7]
              refine GC.loopK (α := Nat) (fun i => i ≤ ms13.length) (fun i => [(7, .int .i64 i)]) [(3, _), (4, _), (5, _), (6, _)] (fun i => row intE F38 (whichL ms13.length fun i => decide (stS (gr ms13) i ≠ 0)).length (whichL ms13.length fun i => decide (stS (gr ms13) i ≠ 0)) :: row intE X18 x18 xs13 :: row slE R18 r18 ls18 :: rowsA ls18 :: row intE S18 s18 (startS (gr ms13)) :: blk g5 62 [.slice X18 xs13.length x18, .slice R18 ls18.length r18, .slice S18 (startS (gr ms13)).length s18] :: blk g3 25 [.slice D13 ms13.length e13] :: row nodeE D13 e13 ms13 :: partsA ms13 :: row intE B13 d13 xs13 :: L) (fun i => ms13.length - i) 0 Wkp Wsb (Nat.zero_le _) ?_
              rintro i hi
              refine GC.seq ?_
              refine GC.seq ?_
              refine GC.region ?_
              refine GL.v Wmv ?_
              refine GL.v Wfa ?_
              refine GL.v Wlb ?_
              refine GL.v Wln ?_
              refine GL.v Wls ?_
              refine GL.nil ?_
              refine GE.seq ?_
              refine GC.ifs (fun h4 => ?_) (fun h4 => ?_)
              · -- FfFT
                have hil : i < ms13.length := by omega
                have hki : kindAt (gr ms13) i = ms13[i].kind := by rw [kindAt_gr (k := i) (by omega)]; rfl
                have hco : (whichL ms13.length fun i => decide (stS (gr ms13) i ≠ 0)).contains (i : Int) = decide (ms13[i].kind ≠ 0) := by
                  rw [whichL_contains, decide_eq_true hil, Bool.true_and, ← hki]
                  by_cases hk : kindAt (gr ms13) i = 0
                  · rw [stS_cell hk]; simp [hk]
                  · rw [stS_der hk]; simp [hk]
                refine GC.skip ?_
                refine GE.seq ?_
                refine GC.seq ?_
                refine GC.block ?_
                refine GC.seq ?_
                refine GC.region_quiet mixed (by kernel_rfl) ?_
                refine GL.v Wmv ?_
                refine GL.v Wmv ?_
                refine GL.callF rfl rfl (isIn_spec _ _ _ _ _ Wrd _ Wom) ?_
                refine GL.v Wfa ?_
                refine GL.v Wlb ?_
                refine GL.v Wmv ?_
                refine GL.v Wix ?_
                refine GL.v Wfa ?_
                refine GL.v Wlef ?_
                refine GL.v Weq ?_
                refine GL.v (by exact EvP.r (Ev.eql_bool rfl rfl)) ?_
                refine GL.nil ?_
                refine GE.seq ?_
                refine GC.ifs (fun h5 => ?_) (fun h5 => ?_)
                · -- FfFTT
                  rw [hco] at h5
                  by_cases hk : ms13[i].kind = 0 <;> simp [hk] at h5
                · -- FfFTF
                  refine GC.skip ?_
                  refine GE.block ?_
                  refine GE.seq ?_
                  refine GC.region ?_
                  refine GL.v Wmv ?_
                  refine GL.v Wad ?_
                  refine GL.v Wag ?_
                  refine GL.nil ?_
                  -- round of loop 1, path FfFTF
                  refine GE.round (i + 1) (by omega) (by omega) Wkp Wsb
              · -- FfFF
                refine GC.exit ?_
                refine GE.seq_exit ?_
                refine GE.loop_exit ?_
                refine GE.block_exit ?_
                refine GE.seq ?_
                refine GC.seq ?_
                refine GC.region ?_
                refine GL.v Wlba ?_
                refine GL.v Wlba ?_
                refine GL.callF rfl rfl (ValidLazy_spec _ _ _ _ xs13 (Rd.of_pick Wpk) _ _ ls18 (RdLs.of_pick Wpk Wpk) _ _ _ _ ms13 (by first | assumption | exact RdG.imp (by assumption) Wim | exact RdG.of_pick Wpk Wpk) (Rd.of_pick Wpk) hC hli) ?_
                refine GL.v Wmv ?_
                refine GL.gs (fun h5 => ?_) (fun h5 => ?_)
                · -- FfFFt
                  refine GL.want rfl rfl ?_
                  refine GL.v Wlba ?_
                  refine GL.want rfl rfl ?_
                  refine GL.v Wlba ?_
                  refine GL.want rfl rfl ?_
                  refine GL.call rfl rfl (LazyCells_spec w0 _ _ _ xs13 (Rd.of_pick Wpk) _ _ ls18 (RdLs.of_pick Wpk Wpk) _ _ _ _ ms13 (by first | assumption | exact RdG.imp (by assumption) Wim | exact RdG.of_pick Wpk Wpk) (Rd.of_pick Wpk) hC hli) ?_
                  rintro _ _ ⟨F63, rfl, rfl⟩
                  refine GL.want rfl rfl ?_
                  refine GL.v Wmv ?_
                  refine GL.want rfl rfl ?_
                  refine GL.callF rfl rfl (equalInts_spec _ _ _ _ _ Wrd _ _ _ Wrd Wom) ?_
                  refine GL.v Wpt ?_
                  refine GL.v Wag ?_
                  refine GL.nil ?_
                  refine GE.seq ?_
                  refine GC.ret ?_
                  -- returns, path FfFFt
                  refine GE.ret_tmp (L' := L) (.inl rfl) rfl rfl Wsb ?_
                  exact ⟨by simp, rfl⟩
                · -- FfFFf
                  cases h5
          exact GAs.nil
      exact GAs.nil
    exact GAs.nil
theorem fnStartLazy_calls {H : Type} {enc : TypeId × Value → H} {W : World} {base : Nat} {args : Array Value} {ds : List (DataW H)} {p : List MemPlace} (hval : ∀ (j : Nat) t v, Try.f10.params[j]? = some t → args[j]? = some v → Value.okWide Try.prog W .any base t v)
    (hA : DataW.TrodAll enc Try.prog W 0 (fun _ => true) true Try.f10.params.toList args.toList ds p) : Tr Try.prog 10 args W [] (fun v L' => v = .bool true ∧ L' = []) := by
  rw [Try.params10] at hA hval
  obtain ⟨v0, vs0, d0, ds0, p0, q0, hargs, rfl, rfl, h0, r0⟩ := trodAll_cons hA
  obtain ⟨rfl, rfl, rfl⟩ := trodAll_nil r0
  obtain rfl : args = #[v0] := by cases args; simp_all
  obtain ⟨A, c, bs, rfl, hR, hb⟩ := arg_sl (E := byteE) (st := 22) (by kernel_rfl) (opens_bytes W) (hval 0 _ v0 rfl rfl) h0
  exact FnStartLazy_spec W [] A c bs hR (fun x hx => wf_u8 (hb x hx))
theorem fnStartLazy_lifted (os : Os) (started : os.Started) (H : Type) (enc : TypeId × Value → H) :
    ReturnsInHanded {} Try.checked os 10 .any (Ytllepoepfkobfaa.Rows.fnStartLazySpec.pre6 enc Try.prog Try.f10 Ytllepoepfkobfaa.Rows.fnStartLazyRow.domain false) (Ytllepoepfkobfaa.Rows.fnStartLazySpec.post enc Try.prog Try.f10 false true false false) := by
  refine returnsInHanded_of_change (C := Try.checked) own started (by kernel_rfl) Try.func10
    (ChangeSpec.witness6 (enc := enc) (C := Try.checked) false ⟨#[], #[.slice none 0 0], []⟩ 8 (by kernel_rfl) (by kernel_rfl) (by kernel_rfl) (by kernel_rfl)) ?_
  intro W base args ds gs before hval0 hW hcnd _
  have hval : ∀ (j : Nat) t v, Try.f10.params[j]? = some t → args[j]? = some v → Value.okWide Try.prog W .any base t v := hval0
  have hW' := hW
  obtain ⟨p, q, hA0, _⟩ := hW
  have hA : DataW.TrodAll enc Try.prog W 0 (fun _ => true) true Try.f10.params.toList args.toList ds p := hA0
  have hlen : ds.length = Try.f10.params.toList.length := trodAll_len hA
  rw [Try.params10] at hlen
  refine ((fnStartLazy_calls hval hA).go W (St.start W)).mono ?_
  rintro e W' ⟨v, L', ⟨rfl, rfl⟩, rfl, hs⟩
  exact ⟨_, rfl, law_post kids full (by rw [Try.params10]; decide) hW' rfl (fun hg => by subst hg; match ds, hlen with | [_], _ => exact bool_res) (fun hg => by subst hg; match ds, hlen with | [_], _ => rfl) (fun hg => by subst hg; match ds, hlen with | [_], _ => rfl) hs.below⟩
theorem fnStartLazy_over : Ytllepoepfkobfaa.Rows.fnStartLazyRow.holds Try.pinned (OpenSpec.ofChange Ytllepoepfkobfaa.Rows.fnStartLazySpec) :=
  OpenClaim.holds_of_wide 10 Try.f10 rfl rfl rfl rfl rfl rfl rfl ⟨rfl, rfl, rfl, rfl, rfl⟩ rfl rfl rfl rfl rfl (by kernel_rfl) Try.func10 (by kernel_rfl)
    (of_decide_eq_true (by kernel_rfl)) (by unfold Func.isWrapper; first | (rw [if_pos (by decide +kernel)]; kernel_rfl) | (rw [if_neg (by decide +kernel)]; exact ⟨rfl, rfl⟩))
    (fun os started H enc _ => fnStartLazy_lifted os started H enc)
end SG
namespace Go.Proofs.Ytllepoepfkobfaa
theorem fnStartLazy_proved : Rows.FnStartLazySaid := SG.fnStartLazy_over
end Go.Proofs.Ytllepoepfkobfaa
#print axioms Go.Proofs.Ytllepoepfkobfaa.fnStartLazy_proved
