/- The law FnMeaningOfFar holds for every input. -/
import Derived.Test.YtojffodplphlaaaD13
import Derived.Test.YtojffodplphlaaaD14
import Derived.Test.YtojffodplphlaaaD19
import Derived.Test.YtojffodplphlaaaD20
import Derived.Test.YtojffodplphlaaaD22
import Derived.Test.YtojffodplphlaaaD25
import Derived.Test.YtojffodplphlaaaPlain15
import Derived.Test.YtojffodplphlaaaRows
namespace SG
open Go Go.RowKit Go.Proofs Go.Proofs.Ytojffodplphlaaa Go.ChangeShapes Go.WideShapes Go.Deep
set_option linter.unusedVariables false
set_option linter.unusedSimpArgs false
set_option maxRecDepth 100000
theorem FnMeaningOfFar_spec (w0 : World) (L : List Asn) (A : Option Addr) (c : Nat) (bs : List Int) (hR : Rd w0 [] byteE A c bs) (hb : ∀ x ∈ bs, 0 ≤ x ∧ x ≤ 255) :
    Tr Try.prog 3 #[.slice A bs.length c] w0 L (fun v L' => v = .bool true ∧ L' = L) := by
  refine Tr.rd_cap (hR.imp Imp.nil) fun hc1 hc2 => ?_
  refine Tr.enter (args := [.slice A bs.length c]) Try.func3 Try.ntmps3 rfl rfl ?_
  refine GC.seq ?_
  refine GC.region ?_
  refine GL.v Wag ?_
  refine GL.nil ?_
  refine GE.seq ?_
  refine GC.seq ?_
  refine GC.seq ?_
  refine GC.region ?_
  refine GL.v Wmv ?_
  refine GL.v Wln ?_
  refine GL.v Wgt ?_
  refine GL.nil ?_
  refine GE.seq ?_
  refine GC.ifs (fun h1 => ?_) (fun h1 => ?_)
  · -- T
    refine GC.seq ?_
    refine GC.region ?_
    refine GL.v Wag ?_
    refine GL.nil ?_
    refine GE.seq ?_
    refine GC.ret ?_
    refine GE.seq_ret ?_
    -- returns, path T
    refine GE.ret_tmp (L' := L) (.inl rfl) rfl rfl Wsb ?_
    exact ⟨rfl, rfl⟩
  · -- F
    refine GC.skip ?_
    refine GE.seq ?_
    refine GC.seq ?_
    refine GC.region ?_
    refine GL.v Wmv ?_
    refine GL.call rfl rfl (DrawMeaningOf_spec _ _ _ _ _ (by assumption) (by assumption) (by omega) (by omega)) ?_
    rintro _ _ ⟨D15, e15, ms15, B15, d15, xs15, rfl, ms15a, ms15b, ms15c, xs15a, xs15b, rfl⟩
    have hS15 := SizeG.small ms15b ms15c
    refine GL.v Wmv ?_
    refine GL.v Wxt ?_
    refine GL.v Wxt ?_
    refine GL.alloc rfl ?_; intro g3
    refine GL.store_varN rfl rfl rfl Wpk (by rfl) (by rfl) (by rfl) ?_
    refine GL.v Wag ?_
    refine GL.nil ?_
    refine GE.seq ?_
    refine GC.seq ?_
    refine GC.region ?_
    refine GL.v Wlba ?_
    refine GL.v Wmv ?_
    refine GL.call rfl rfl (iMeaningOf_spec _ _ _ _ _ (by first | assumption | exact RdG.imp (by assumption) Wim | exact RdG.of_pick Wpk Wpk) _ _ _ Wrd (by first | omega | exact SizeG.le (by assumption)) Wom) ?_
    rintro _ _ ⟨B20, d20, rfl, rfl⟩
    have hten := meanOfL_ten (gr ms15) xs15
    refine GL.v Wag ?_
    refine GL.nil ?_
    refine GE.seq ?_
    refine GC.seq ?_
    refine GC.seq ?_
    refine GC.region ?_
    refine GL.v Wmv ?_
    refine GL.v Wlba ?_
    refine GL.v Wmv ?_
    refine GL.call rfl rfl (sMeaningOf_spec _ _ _ _ _ (by first | assumption | exact RdG.imp (by assumption) Wim | exact RdG.of_pick Wpk Wpk) _ _ _ Wrd (by assumption) Wom) ?_
    rintro _ _ ⟨B24, d24, rfl, rfl⟩
    refine GL.callF rfl rfl (equalInts_spec _ _ _ _ _ Wrd _ _ _ Wrd Wom) ?_
    refine GL.v Wnt ?_
    refine GL.v Wmv ?_
    refine GL.gs (fun h2 => ?_) (fun h2 => ?_)
    · -- Ft
      exact absurd rfl h2
    · -- Ff
      refine GL.want rfl rfl ?_
      refine GL.v Wlba ?_
      refine GL.want rfl rfl ?_
      refine GL.v Wmv ?_
      refine GL.want rfl rfl ?_
      refine GL.callF rfl rfl (iValidCells_spec _ _ _ _ _ (by first | assumption | exact RdG.imp (by assumption) Wim | exact RdG.of_pick Wpk Wpk) _ _ _ Wrd (by first | omega | exact SizeG.le (by assumption)) Wom) ?_
      refine GL.want rfl rfl ?_
      refine GL.v Wnt ?_
      refine GL.v Wpf ?_
      refine GL.nil ?_
      refine GE.seq ?_
      refine GC.ifs (fun h3 => ?_) (fun h3 => ?_)
      · -- FfT
        refine GC.seq ?_
        refine GC.region ?_
        refine GL.v Wmv ?_
        refine GL.v Wlba ?_
        refine GL.v Wmv ?_
        refine GL.call rfl rfl (sMeaningOf_spec _ _ _ _ _ (by first | assumption | exact RdG.imp (by assumption) Wim | exact RdG.of_pick Wpk Wpk) _ _ _ Wrd (by assumption) Wom) ?_
        rintro _ _ ⟨B36, d36, rfl, rfl⟩
        refine GL.callF rfl rfl (equalInts_spec _ _ _ _ _ Wrd _ _ _ Wrd Wom) ?_
        refine GL.v Wag ?_
        refine GL.nil ?_
        refine GE.seq ?_
        refine GC.ret ?_
        refine GE.seq_ret ?_
        -- returns, path FfT
        refine GE.ret_tmp (L' := L) (.inl rfl) rfl rfl Wsb ?_
        exact ⟨by simp, rfl⟩
      · -- FfF
        have hcv : cellsV (gr ms15) xs15 = true := h3
        rw [meanOfL_yes hcv]
        have hml := meanL_length (gr ms15) xs15
        rw [gr_length] at hml
        have hxl := (cellsV_len hcv).1
        rw [gr_length] at hxl
        have hN : Rd w0 (row nodeE D15 e15 ms15 :: partsA ms15 :: row intE B15 d15 xs15 :: L) nodeE D15 e15 ms15 := Rd.of_pick Wpk
        refine GC.skip ?_
        refine GE.seq ?_
        refine GC.seq ?_
        refine GC.seq ?_
        refine GC.region ?_
        refine GL.v Wag ?_
        refine GL.nil ?_
        refine GE.seq ?_
        refine GC.block ?_
        -- loop 1: carried slots [6]
        refine GC.loopK (α := Nat) (fun i => i ≤ ms15.length) (fun i => [(6, .int .i64 i)]) [(3, _), (4, _), (5, _)] (fun i => row intE B20 d20 (meanL (gr ms15) xs15) :: blk g3 25 [.slice D15 ms15.length e15] :: row nodeE D15 e15 ms15 :: partsA ms15 :: row intE B15 d15 xs15 :: L) (fun i => ms15.length - i) 0 Wkp Wsb (Nat.zero_le _) ?_
        rintro i hi
        refine GC.seq ?_
        refine GC.seq ?_
        refine GC.region ?_
        refine GL.v Wmv ?_
        refine GL.v Wfa ?_
        refine GL.v Wlb ?_
        refine GL.v Wln ?_
        refine GL.v Wls ?_
        refine GL.nil ?_
        refine GE.seq ?_
        refine GC.ifs (fun h4 => ?_) (fun h4 => ?_)
        · -- FfFT
          have hil : i < ms15.length := by omega
          have hig : i < (gr ms15).length := by simpa using hil
          have hnt := needOfL_ten (gr ms15) i
          refine GC.skip ?_
          refine GE.seq ?_
          refine GC.seq ?_
          refine GC.block ?_
          refine GC.seq ?_
          refine GC.region ?_
          refine GL.v Wlba ?_
          refine GL.v Wmv ?_
          refine GL.call rfl rfl (iNeedOf_spec _ _ _ _ _ (by first | assumption | exact RdG.imp (by assumption) Wim | exact RdG.of_pick Wpk Wpk) (by first | omega | exact SizeG.le (by assumption)) _) ?_
          rintro _ _ ⟨B47, d47, rfl, rfl⟩
          refine GL.v Wag ?_
          refine GL.nil ?_
          refine GE.seq ?_
          refine GC.seq ?_
          refine GC.region ?_
          refine GL.buildSlice rfl (by first | exact bsInt0 | exact bsInt1 _ | exact bsInt2 _ _ | exact bsInt3 _ _ _ | exact bsInt4 _ _ _ _ | exact bsInt5 _ _ _ _ _ | exact bsInt6 _ _ _ _ _ _ | exact bsInt7 _ _ _ _ _ _ _ | exact bsInt8 _ _ _ _ _ _ _ _ | exact bsInt9 _ _ _ _ _ _ _ _ _ | exact bsInt10 _ _ _ _ _ _ _ _ _ _ | exact bsPart0 | exact bsPart1 ⟨_, _, _, _, _⟩ | exact bsNode1 ⟨_, _, _, _⟩ | exact bsPtr3 _ _ _ | exact bsSl0 | exact bsSl1 ⟨_, _, _⟩ | exact bsAct0 | exact bsBool0 | exact bsAct1 ⟨_, _, _⟩) rfl (by decide) rfl ?_; intro g48
          refine GL.v Wmv ?_
          first | (refine GL.append rfl rfl Wpk (by assumption) Wim (by first | rfl | (simp; done) | (simp; omega)) (by first | rfl | (simp; done) | (simp; omega)) (by first | omega | (simp; omega)) (by first | omega | (simp; omega)) rfl ?_; intro A50 c50) | (refine GL.append rfl rfl Wpk (Rd.of_pick Wpk) Imp.refl (by first | rfl | (simp; done) | (simp; omega)) (by first | rfl | (simp; done) | (simp; omega)) (by first | omega | (simp; omega)) (by first | omega | (simp; omega)) rfl ?_; intro A50 c50)
          refine GL.v Wag ?_
          refine GL.nil ?_
          refine GE.seq ?_
          refine GC.seq ?_
          refine GC.seq ?_
          refine GC.region ?_
          refine GL.v Wag ?_
          refine GL.nil ?_
          refine GE.seq ?_
          refine GC.block ?_
          -- loop 2: carried slots [9]
          refine GC.loopK (α := Nat) (fun j => j ≤ ms15.length) (fun j => [(9, .int .i64 j)]) [(3, _), (4, _), (5, _), (6, _), (7, _), (8, _)] (fun j => row intE A50 c50 (farL (gr ms15) xs15 i j) :: row intE B47 d47 (needOfL (gr ms15) i) :: row intE B20 d20 (meanL (gr ms15) xs15) :: blk g3 25 [.slice D15 ms15.length e15] :: row nodeE D15 e15 ms15 :: partsA ms15 :: row intE B15 d15 xs15 :: L) (fun j => ms15.length - j) 0 Wkp (by rw [farL_zero]; exact Wsb) (Nat.zero_le _) ?_
          rintro j hj
          have hfl := farL_length (gr ms15) xs15 i j
          refine GC.seq ?_
          refine GC.seq ?_
          refine GC.region ?_
          refine GL.v Wmv ?_
          refine GL.v Wfa ?_
          refine GL.v Wlb ?_
          refine GL.v Wln ?_
          refine GL.v Wls ?_
          refine GL.nil ?_
          refine GE.seq ?_
          refine GC.ifs (fun h5 => ?_) (fun h5 => ?_)
          · -- FfFTT
            have hjl : j < ms15.length := by omega
            have hxb := (cellsV_at.1 hcv).2.2 j (by simpa using hjl)
            rw [← at0_eq (by omega)] at hxb
            have hxj := hxb.1
            have hkj : kindAt (gr ms15) j = ms15[j].kind := by rw [kindAt_gr (k := j) (by omega)]; rfl
            refine GC.skip ?_
            refine GE.seq ?_
            refine GC.seq ?_
            refine GC.block ?_
            refine GC.seq ?_
            refine GC.region ?_
            refine GL.v Wfa ?_
            refine GL.v Wlb ?_
            refine GL.v Wmv ?_
            refine GL.v Wix ?_
            refine GL.v Wfa ?_
            refine GL.v Wlef ?_
            refine GL.v Weq ?_
            refine GL.v Wmv ?_
            refine GL.gs (fun h6 => ?_) (fun h6 => ?_)
            · -- FfFTTt
              refine GL.want rfl rfl ?_
              refine GL.v Wmv ?_
              refine GL.want rfl rfl ?_
              refine GL.v Wmv ?_
              refine GL.want rfl rfl ?_
              refine GL.callF rfl rfl (isIn_spec _ _ _ _ _ Wrd _ Wom) ?_
              refine GL.want rfl rfl ?_
              refine GL.v Wnt ?_
              refine GL.v Wpt ?_
              refine GL.nil ?_
              refine GE.seq ?_
              refine GC.ifs (fun h7 => ?_) (fun h7 => ?_)
              · -- FfFTTtT
                refine GC.region ?_
                refine GL.v Wmv ?_
                refine GL.v Wmv ?_
                refine GL.v Wmv ?_
                refine GL.v Wmv ?_
                refine GL.v Wix ?_
                refine GL.v Wle ?_
                refine GL.v Wad ?_
                refine GL.v (by exact EvP.r (Ev.rem rfl rfl (by omega) (by omega))) ?_
                refine GL.v Wix ?_
                refine GL.store_el rfl rfl Wpk rfl rfl rfl (by first | omega | (simp; done) | (simp; omega)) ?_
                refine GL.nil ?_
                refine GE.block ?_
                refine GE.seq ?_
                refine GC.region ?_
                refine GL.v Wmv ?_
                refine GL.v Wad ?_
                refine GL.v Wag ?_
                refine GL.nil ?_
                -- round of loop 2, path FfFTTtT
                rw [at0_eq, farL_set (by omega) (hkj.trans h6) (by simpa using h7)]
                refine GE.round (j + 1) (by omega) (by omega) Wkp Wsb
              · -- FfFTTtF
                refine GC.skip ?_
                refine GE.block ?_
                refine GE.seq ?_
                refine GC.region ?_
                refine GL.v Wmv ?_
                refine GL.v Wad ?_
                refine GL.v Wag ?_
                refine GL.nil ?_
                -- round of loop 2, path FfFTTtF
                rw [farL_skip (k := j) (fun h => by rw [h.2] at h7; cases h7)]
                refine GE.round (j + 1) (by omega) (by omega) Wkp Wsb
            · -- FfFTTf
              refine GL.unwant rfl rfl rfl rfl ?_
              refine GL.unwant rfl rfl rfl rfl ?_
              refine GL.unwant rfl rfl rfl rfl ?_
              refine GL.unwant rfl rfl rfl rfl ?_
              refine GL.v Wpf ?_
              refine GL.nil ?_
              refine GE.seq ?_
              refine GC.cond_false rfl ?_
              refine GC.skip ?_
              refine GE.block ?_
              refine GE.seq ?_
              refine GC.region ?_
              refine GL.v Wmv ?_
              refine GL.v Wad ?_
              refine GL.v Wag ?_
              refine GL.nil ?_
              -- round of loop 2, path FfFTTf
              rw [farL_skip (k := j) (fun h => h6 (hkj.symm.trans h.1))]
              refine GE.round (j + 1) (by omega) (by omega) Wkp Wsb
          · -- FfFTF
            obtain rfl : j = ms15.length := by omega
            have hfv := far_valid hcv i
            have hfm := far_mean hcv (n := i) hig
            rw [gr_length] at hfv hfm
            have hm2 := meanL_length (gr ms15) (farL (gr ms15) xs15 i ms15.length)
            rw [gr_length] at hm2
            refine GC.exit ?_
            refine GE.seq_exit ?_
            refine GE.loop_exit ?_
            refine GE.block_exit ?_
            refine GE.seq ?_
            refine GC.seq ?_
            refine GC.region_any #[false, false, true, false, false, false, false, false, false, false, false] mixed ?_
            refine GA.read 0 #[false, true, false, true, false, false, true, true, true, true, false] rfl (by exact Wlba) rfl rfl (by kernel_rfl) rfl (by kernel_rfl) (by kernel_rfl) (fun _ _ _ h => h) ?_
            refine GA.take 1 #[true, false, false, true, false, false, true, true, true, true, false] rfl (by exact Ev.move rfl) rfl rfl (by kernel_rfl) rfl (by kernel_rfl) (by kernel_rfl) (fun _ _ _ h => h) ?_
            refine GA.take 3 #[true, true, true, false, false, false, true, true, true, true, false] rfl (by exact Ev.move rfl) rfl rfl (by kernel_rfl) rfl (by kernel_rfl) (by kernel_rfl) (fun _ _ _ h => h) ?_
            refine GA.take 6 #[true, true, true, true, true, true, false, true, false, false, false] rfl (by exact Ev.move rfl) rfl rfl (by kernel_rfl) rfl (by kernel_rfl) (by kernel_rfl) (fun _ _ _ h => h) ?_
            refine GA.take 7 #[true, true, true, true, true, true, true, false, false, false, false] rfl (by exact Ev.move rfl) rfl rfl (by kernel_rfl) rfl (by kernel_rfl) (by kernel_rfl) (fun _ _ _ h => h) ?_
            refine GA.read 8 #[true, true, true, true, true, true, true, true, false, false, false] rfl (by exact Wix) rfl rfl (by kernel_rfl) rfl (by kernel_rfl) (by kernel_rfl) (fun _ _ _ h => h) ?_
            refine GA.read 9 #[true, true, true, true, true, true, true, true, true, false, false] rfl (by exact Wle) rfl rfl (by kernel_rfl) rfl (by kernel_rfl) (by kernel_rfl) (fun _ _ _ h => h) ?_
            refine GA.branch (rs := [2]) (JOk.live (by exact Wle) (JOk.live (by exact Wix) (JOk.live (by exact Wlba) JOk.nil))) (by kernel_rfl) (by simp) ?_
            refine GAs.cons rfl ?_ ?_
            · -- FfFTF op 2
              refine GL.call rfl rfl (Tr.len2 (farL (gr ms15) xs15 i ms15.length) (by simp) (iMeaningOf_spec _ _ _ _ _ (by first | assumption | exact RdG.imp (by assumption) Wim | exact RdG.of_pick Wpk Wpk) _ _ (farL (gr ms15) xs15 i ms15.length) Wrd (by first | omega | exact SizeG.le (by assumption)) (by simp; omega))) ?_
              rintro _ _ ⟨B82, d82, rfl, rfl⟩
              rw [meanOfL_yes hfv]
              refine GL.nil ?_
              refine GE.any ?_
              refine GA.read 4 #[true, true, true, true, false, false, true, true, true, true, false] rfl (by exact Wix) rfl rfl (by kernel_rfl) rfl (by kernel_rfl) (by kernel_rfl) (fun _ _ _ h => h) ?_
              refine GA.read 5 #[true, true, true, true, true, false, true, true, true, true, false] rfl (by exact Wle) rfl rfl (by kernel_rfl) rfl (by kernel_rfl) (by kernel_rfl) (fun _ _ _ h => h) ?_
              refine GA.take 10 #[true, true, true, true, true, true, true, true, true, true, false] rfl (by exact Ev.neq rfl rfl) rfl rfl (by kernel_rfl) rfl (by kernel_rfl) (by kernel_rfl) (fun _ _ _ h => h) ?_
              refine GA.done (JOk.live (by exact Wle) (JOk.live (by exact Wix) (JOk.live (by exact Wle) (JOk.live (by exact Wix) (JOk.dead (by kernel_rfl) JOk.nil))))) (by kernel_rfl) ?_
              refine GE.seq ?_
              refine GC.ifs (fun h6 => ?_) (fun h6 => ?_)
              · -- FfFTFT
                refine absurd ?_ h6; rw [meanL_get, meanL_get]; exact hfm
              · -- FfFTFF
                refine GC.skip ?_
                refine GE.block ?_
                refine GE.seq ?_
                refine GC.region ?_
                refine GL.v Wmv ?_
                refine GL.v Wad ?_
                refine GL.v Wag ?_
                refine GL.nil ?_
                -- round of loop 1, path FfFTFF
                refine GE.round (i + 1) (by omega) (by omega) Wkp Wsb
            exact GAs.nil
        · -- FfFF
          refine GC.exit ?_
          refine GE.seq_exit ?_
          refine GE.loop_exit ?_
          refine GE.block_exit ?_
          refine GE.seq ?_
          refine GC.seq ?_
          refine GC.region ?_
          refine GL.v Wag ?_
          refine GL.nil ?_
          refine GE.seq ?_
          refine GC.ret ?_
          -- returns, path FfFF
          refine GE.ret_tmp (L' := L) (.inl rfl) rfl rfl Wsb ?_
          exact ⟨rfl, rfl⟩
theorem fnMeaningOfFar_calls {H : Type} {enc : TypeId × Value → H} {W : World} {base : Nat} {args : Array Value} {ds : List (DataW H)} {p : List MemPlace} (hval : ∀ (j : Nat) t v, Try.f3.params[j]? = some t → args[j]? = some v → Value.okWide Try.prog W .any base t v)
    (hA : DataW.TrodAll enc Try.prog W 0 (fun _ => true) true Try.f3.params.toList args.toList ds p) : Tr Try.prog 3 args W [] (fun v L' => v = .bool true ∧ L' = []) := by
  rw [Try.params3] at hA hval
  obtain ⟨v0, vs0, d0, ds0, p0, q0, hargs, rfl, rfl, h0, r0⟩ := trodAll_cons hA
  obtain ⟨rfl, rfl, rfl⟩ := trodAll_nil r0
  obtain rfl : args = #[v0] := by cases args; simp_all
  obtain ⟨A, c, bs, rfl, hR, hb⟩ := arg_sl (E := byteE) (st := 22) (by kernel_rfl) (opens_bytes W) (hval 0 _ v0 rfl rfl) h0
  exact FnMeaningOfFar_spec W [] A c bs hR (fun x hx => wf_u8 (hb x hx))
theorem fnMeaningOfFar_lifted (os : Os) (started : os.Started) (H : Type) (enc : TypeId × Value → H) :
    ReturnsInHanded {} Try.checked os 3 .any (Ytojffodplphlaaa.Rows.fnMeaningOfFarSpec.pre6 enc Try.prog Try.f3 Ytojffodplphlaaa.Rows.fnMeaningOfFarRow.domain false) (Ytojffodplphlaaa.Rows.fnMeaningOfFarSpec.post enc Try.prog Try.f3 false true false false) := by
  refine returnsInHanded_of_change (C := Try.checked) own started (by kernel_rfl) Try.func3
    (ChangeSpec.witness6 (enc := enc) (C := Try.checked) false ⟨#[], #[.slice none 0 0], []⟩ 8 (by kernel_rfl) (by kernel_rfl) (by kernel_rfl) (by kernel_rfl)) ?_
  intro W base args ds gs before hval0 hW hcnd _
  have hval : ∀ (j : Nat) t v, Try.f3.params[j]? = some t → args[j]? = some v → Value.okWide Try.prog W .any base t v := hval0
  have hW' := hW
  obtain ⟨p, q, hA0, _⟩ := hW
  have hA : DataW.TrodAll enc Try.prog W 0 (fun _ => true) true Try.f3.params.toList args.toList ds p := hA0
  have hlen : ds.length = Try.f3.params.toList.length := trodAll_len hA
  rw [Try.params3] at hlen
  refine ((fnMeaningOfFar_calls hval hA).go W (St.start W)).mono ?_
  rintro e W' ⟨v, L', ⟨rfl, rfl⟩, rfl, hs⟩
  exact ⟨_, rfl, law_post kids full (by rw [Try.params3]; decide) hW' rfl (fun hg => by subst hg; match ds, hlen with | [_], _ => exact bool_res) (fun hg => by subst hg; match ds, hlen with | [_], _ => rfl) (fun hg => by subst hg; match ds, hlen with | [_], _ => rfl) hs.below⟩
theorem fnMeaningOfFar_over : Ytojffodplphlaaa.Rows.fnMeaningOfFarRow.holds Try.pinned (OpenSpec.ofChange Ytojffodplphlaaa.Rows.fnMeaningOfFarSpec) :=
  OpenClaim.holds_of_wide 3 Try.f3 rfl rfl rfl rfl rfl rfl rfl ⟨rfl, rfl, rfl, rfl, rfl⟩ rfl rfl rfl rfl rfl (by kernel_rfl) Try.func3 (by kernel_rfl)
    (of_decide_eq_true (by kernel_rfl)) (by unfold Func.isWrapper; first | (rw [if_pos (by decide +kernel)]; kernel_rfl) | (rw [if_neg (by decide +kernel)]; exact ⟨rfl, rfl⟩))
    (fun os started H enc _ => fnMeaningOfFar_lifted os started H enc)
end SG
namespace Go.Proofs.Ytojffodplphlaaa
theorem fnMeaningOfFar_proved : Rows.FnMeaningOfFarSaid := SG.fnMeaningOfFar_over
end Go.Proofs.Ytojffodplphlaaa
#print axioms Go.Proofs.Ytojffodplphlaaa.fnMeaningOfFar_proved
