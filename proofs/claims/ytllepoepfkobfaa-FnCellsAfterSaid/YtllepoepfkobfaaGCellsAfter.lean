/- The law FnCellsAfter holds for every input. -/
import Derived.Test.YtllepoepfkobfaaD14
import Derived.Test.YtllepoepfkobfaaD42
import Derived.Test.YtllepoepfkobfaaD44
import Derived.Test.YtllepoepfkobfaaD46
import Derived.Test.YtllepoepfkobfaaD47
import Derived.Test.YtllepoepfkobfaaRows
namespace SG
open Go Go.RowKit Go.Proofs Go.Proofs.Ytllepoepfkobfaa Go.ChangeShapes Go.WideShapes Go.Deep
set_option linter.unusedVariables false
set_option linter.unusedSimpArgs false
set_option maxRecDepth 100000
theorem FnCellsAfter_spec (w0 : World) (L : List Asn) (A : Option Addr) (c : Nat) (bs : List Int) (hR : Rd w0 [] byteE A c bs) (hb : ∀ x ∈ bs, 0 ≤ x ∧ x ≤ 255) :
    Tr Try.prog 7 #[.slice A bs.length c] w0 L (fun v L' => v = .bool true ∧ L' = L) := by
  refine Tr.rd_cap (hR.imp Imp.nil) fun hc1 hc2 => ?_
  refine Tr.enter (args := [.slice A bs.length c]) Try.func7 Try.ntmps7 rfl rfl ?_
  refine GC.seq ?_
  refine GC.region ?_
  refine GL.v Wag ?_
  refine GL.nil ?_
  refine GE.seq ?_
  refine GC.seq ?_
  refine GC.seq ?_
  refine GC.region ?_
  refine GL.v Wmv ?_
  refine GL.v Wln ?_
  refine GL.v Wgt ?_
  refine GL.nil ?_
  refine GE.seq ?_
  refine GC.ifs (fun h1 => ?_) (fun h1 => ?_)
  · -- T
    refine GC.seq ?_
    refine GC.region ?_
    refine GL.v Wag ?_
    refine GL.nil ?_
    refine GE.seq ?_
    refine GC.ret ?_
    refine GE.seq_ret ?_
    -- returns, path T
    refine GE.ret_tmp (L' := L) (.inl rfl) rfl rfl Wsb ?_
    exact ⟨rfl, rfl⟩
  · -- F
    refine GC.skip ?_
    refine GE.seq ?_
    refine GC.seq ?_
    refine GC.region ?_
    refine GL.v Wmv ?_
    refine GL.call rfl rfl (DrawCellsAfter_spec _ _ _ _ _ (by assumption) (by assumption) (by omega) (by omega)) ?_
    rintro _ _ ⟨D15, e15, ms15, B15, d15, xs15, E15, f15, ac15, rfl, ms15a, ms15b, ms15c, xs15a, xs15b, ac15a, rfl⟩
    have hS15 := SizeG.small ms15b ms15c
    refine GL.v Wmv ?_
    refine GL.v Wxt ?_
    refine GL.v Wxt ?_
    refine GL.v Wxt ?_
    refine GL.alloc rfl ?_; intro g3
    refine GL.store_varN rfl rfl rfl Wpk (by rfl) (by rfl) (by rfl) ?_
    refine GL.v Wag ?_
    refine GL.v Wag ?_
    refine GL.nil ?_
    refine GE.seq ?_
    refine GC.seq ?_
    refine GC.region ?_
    refine GL.v Wlba ?_
    refine GL.v Wmv ?_
    refine GL.v Wmv ?_
    refine GL.call rfl rfl (iCellsAfter_spec _ _ _ _ _ (by first | assumption | exact RdG.imp (by assumption) Wim | exact RdG.of_pick Wpk Wpk) _ _ _ Wrd _ _ _ Wrd (by first | omega | exact SizeG.le (by assumption)) Wom Wom) ?_
    rintro _ _ ⟨B22, d22, rfl, rfl⟩
    have hten := aftL_ten (gr ms15) xs15 ac15
    refine GL.v Wag ?_
    refine GL.nil ?_
    refine GE.seq ?_
    refine GC.seq ?_
    refine GC.seq ?_
    refine GC.region ?_
    refine GL.v Wmv ?_
    refine GL.v Wlba ?_
    refine GL.v Wmv ?_
    refine GL.v Wmv ?_
    refine GL.call rfl rfl (sCellsAfter_spec _ _ _ _ _ (by first | assumption | exact RdG.imp (by assumption) Wim | exact RdG.of_pick Wpk Wpk) _ _ _ Wrd _ _ _ Wrd (by assumption) Wom Wom) ?_
    rintro _ _ ⟨B27, d27, rfl, rfl⟩
    refine GL.callF rfl rfl (equalInts_spec _ _ _ _ _ Wrd _ _ _ Wrd Wom) ?_
    refine GL.v Wnt ?_
    refine GL.v Wmv ?_
    refine GL.gs (fun h2 => ?_) (fun h2 => ?_)
    · -- Ft
      exact absurd rfl h2
    · -- Ff
      refine GL.want rfl rfl ?_
      refine GL.v Wmv ?_
      refine GL.want rfl rfl ?_
      refine GL.v Wln ?_
      refine GL.want rfl rfl ?_
      refine GL.v Weq ?_
      refine GL.v Wpf ?_
      refine GL.nil ?_
      refine GE.seq ?_
      refine GC.ifs (fun h3 => ?_) (fun h3 => ?_)
      · -- FfT
        refine GC.seq ?_
        refine GC.region ?_
        refine GL.v Wmv ?_
        refine GL.v Wlba ?_
        refine GL.v Wmv ?_
        refine GL.v Wmv ?_
        refine GL.call rfl rfl (sCellsAfter_spec _ _ _ _ _ (by first | assumption | exact RdG.imp (by assumption) Wim | exact RdG.of_pick Wpk Wpk) _ _ _ Wrd _ _ _ Wrd (by assumption) Wom Wom) ?_
        rintro _ _ ⟨B39, d39, rfl, rfl⟩
        refine GL.callF rfl rfl (equalInts_spec _ _ _ _ _ Wrd _ _ _ Wrd Wom) ?_
        refine GL.v Wag ?_
        refine GL.nil ?_
        refine GE.seq ?_
        refine GC.ret ?_
        refine GE.seq_ret ?_
        -- returns, path FfT
        refine GE.ret_tmp (L' := L) (.inl rfl) rfl rfl Wsb ?_
        exact ⟨by simp, rfl⟩
      · -- FfF
        have hsv : sesB (gr ms15) xs15 ac15 = true := aftL_some (fun h => h3 (by rw [h]; rfl))
        obtain ⟨hcv, hav⟩ := sesB_iff.1 hsv
        obtain ⟨hv1, hv2, hv3⟩ := actsB_iff.1 hav
        have hva := aft_valid hsv
        have hxl := (cellsV_len hcv).1
        rw [gr_length] at hxl
        refine GC.skip ?_
        refine GE.seq ?_
        refine GC.seq ?_
        refine GC.region ?_
        refine GL.v Wlba ?_
        refine GL.v Wmv ?_
        refine GL.call rfl rfl (iBatchAll_spec _ _ _ _ _ (by first | assumption | exact RdG.imp (by assumption) Wim | exact RdG.of_pick Wpk Wpk) _ _ _ Wrd (by first | omega | exact SizeG.le (by assumption)) Wom) ?_
        rintro _ _ ⟨B43, d43, rfl, rfl⟩
        have hbl := batchL_length (gr ms15) ac15
        refine GL.v Wag ?_
        refine GL.nil ?_
        refine GE.seq ?_
        refine GC.seq ?_
        refine GC.seq ?_
        refine GC.region ?_
        refine GL.v Wmv ?_
        refine GL.v Wln ?_
        refine GL.v Weq ?_
        refine GL.nil ?_
        refine GE.seq ?_
        refine GC.ifs (fun h4 => ?_) (fun h4 => ?_)
        · -- FfFT
          refine GC.seq ?_
          refine GC.region ?_
          refine GL.v Wlba ?_
          refine GL.v Wmv ?_
          refine GL.callF rfl rfl (iValidCells_spec _ _ _ _ _ (by first | assumption | exact RdG.imp (by assumption) Wim | exact RdG.of_pick Wpk Wpk) _ _ _ Wrd (by first | omega | exact SizeG.le (by assumption)) Wom) ?_
          refine GL.v Wag ?_
          refine GL.nil ?_
          refine GE.seq ?_
          refine GC.ret ?_
          refine GE.seq_ret ?_
          -- returns, path FfFT
          refine GE.ret_tmp (L' := L) (.inl rfl) rfl rfl Wsb ?_
          exact ⟨by rw [show (validG (gr ms15) && cellsOkB (gr ms15) (aftL (gr ms15) xs15 ac15)) = true from hva], rfl⟩
        · -- FfFF
          obtain ⟨hb1, hb2, hb3⟩ := batchL_some (gs := gr ms15) (acts := ac15) (fun h => by rw [h] at h4; simp at h4)
          rw [hb1]
          have hba := bat_after hsv hb3
          refine GC.skip ?_
          refine GE.seq ?_
          refine GC.seq ?_
          refine GC.region ?_
          refine GL.buildSlice rfl (by first | exact bsInt0 | exact bsInt1 _ | exact bsInt2 _ _ | exact bsInt3 _ _ _ | exact bsInt4 _ _ _ _ | exact bsInt5 _ _ _ _ _ | exact bsInt6 _ _ _ _ _ _ | exact bsInt7 _ _ _ _ _ _ _ | exact bsInt8 _ _ _ _ _ _ _ _ | exact bsInt9 _ _ _ _ _ _ _ _ _ | exact bsInt10 _ _ _ _ _ _ _ _ _ _ | exact bsPart0 | exact bsPart1 ⟨_, _, _, _, _⟩ | exact bsNode1 ⟨_, _, _, _⟩ | exact bsPtr3 _ _ _ | exact bsSl0 | exact bsSl1 ⟨_, _, _⟩ | exact bsAct0 | exact bsBool0 | exact bsAct1 ⟨_, _, _⟩) rfl (by decide) rfl ?_; intro g50
          refine GL.v Wmv ?_
          first | (refine GL.append rfl rfl Wpk (by assumption) Wim (by first | rfl | (simp; done) | (simp; omega)) (by first | rfl | (simp; done) | (simp; omega)) (by first | omega | (simp; omega)) (by first | omega | (simp; omega)) rfl ?_; intro A52 c52) | (refine GL.append rfl rfl Wpk (Rd.of_pick Wpk) Imp.refl (by first | rfl | (simp; done) | (simp; omega)) (by first | rfl | (simp; done) | (simp; omega)) (by first | omega | (simp; omega)) (by first | omega | (simp; omega)) rfl ?_; intro A52 c52)
          refine GL.v Wag ?_
          refine GL.nil ?_
          refine GE.seq ?_
          refine GC.seq ?_
          refine GC.seq ?_
          refine GC.region ?_
          refine GL.v Wag ?_
          refine GL.nil ?_
          refine GE.seq ?_
          refine GC.block ?_
          -- loop 1: carried slots [9]
          refine GC.loopK (α := Nat) (fun i => i ≤ ac15.length) (fun i => [(9, .int .i64 i)]) [(3, _), (4, _), (5, _), (6, _), (7, _), (8, _)] (fun i => row intE A52 c52 (wrtUp xs15 ac15 i) :: row actE B43 d43 (batL ac15) :: row intE B22 d22 (aftL (gr ms15) xs15 ac15) :: blk g3 25 [.slice D15 ms15.length e15] :: row nodeE D15 e15 ms15 :: partsA ms15 :: row intE B15 d15 xs15 :: row actE E15 f15 ac15 :: L) (fun i => ac15.length - i) 0 Wkp Wsb (Nat.zero_le _) ?_
          rintro i hi
          have hwl := wrtUp_length xs15 ac15 i
          refine GC.seq ?_
          refine GC.seq ?_
          refine GC.region ?_
          refine GL.v Wmv ?_
          refine GL.v Wmv ?_
          refine GL.v Wln ?_
          refine GL.v Wls ?_
          refine GL.nil ?_
          refine GE.seq ?_
          refine GC.ifs (fun h5 => ?_) (fun h5 => ?_)
          · -- FfFFT
            have hil : i < ac15.length := by omega
            have hak := act_kind (hv3 _ (List.getElem_mem hil))
            refine GC.skip ?_
            refine GE.seq ?_
            refine GC.seq ?_
            refine GC.block ?_
            refine GC.seq ?_
            refine GC.region ?_
            refine GL.v Wmv ?_
            refine GL.v Wmv ?_
            refine GL.v Wix ?_
            refine GL.v Wfa ?_
            refine GL.v Wlef ?_
            refine GL.v Weq ?_
            refine GL.nil ?_
            refine GE.seq ?_
            refine GC.ifs (fun h6 => ?_) (fun h6 => ?_)
            · -- FfFFTT
              have hnb : 0 ≤ (ac15[i]).node ∧ (ac15[i]).node < ms15.length := by
                rcases hak with h | h | h | h
                · have := (cellB_iff.1 h.2.1).1; rw [gr_length] at this; exact this
                · omega
                · omega
                · omega
              refine GC.region_tail 12 mixed (by kernel_rfl) ?_
              refine GS.val (by exact EvP.r (Ev.move rfl)) rfl rfl ?_
              refine GS.val (by exact EvP.r (Ev.move rfl)) rfl rfl ?_
              refine GS.val (by exact EvP.r (Ev.move rfl)) rfl rfl ?_
              refine GS.val (by exact Wix) rfl rfl ?_
              refine GS.val (by exact EvP.r (Ev.fieldAddr rfl)) rfl rfl ?_
              refine GS.val (by exact Wlef) rfl rfl ?_
              refine GS.val (by exact EvP.r (Ev.move rfl)) rfl rfl ?_
              refine GS.val (by exact EvP.r (Ev.move rfl)) rfl rfl ?_
              refine GS.val (by exact Wix) rfl rfl ?_
              refine GS.val (by exact EvP.r (Ev.fieldAddr rfl)) rfl rfl ?_
              refine GS.val (by exact Wlef) rfl rfl ?_
              refine GS.val (by exact Wix) rfl rfl ?_
              refine GS.nil ?_
              refine GL.store_el rfl rfl Wpk rfl rfl rfl (by first | omega | (simp; done) | (simp; omega)) ?_
              refine GL.nil ?_
              refine GE.block ?_
              refine GE.seq ?_
              refine GC.region ?_
              refine GL.v Wmv ?_
              refine GL.v Wad ?_
              refine GL.v Wag ?_
              refine GL.nil ?_
              -- round of loop 1, path FfFFTT
              refine GE.round (i + 1) (by omega) (by omega) Wkp (by rw [wrtUp_succ _ _ hil, wrt_yes h6]; exact Wsb)
            · -- FfFFTF
              refine GC.skip ?_
              refine GE.block ?_
              refine GE.seq ?_
              refine GC.region ?_
              refine GL.v Wmv ?_
              refine GL.v Wad ?_
              refine GL.v Wag ?_
              refine GL.nil ?_
              -- round of loop 1, path FfFFTF
              refine GE.round (i + 1) (by omega) (by omega) Wkp (by rw [wrtUp_succ _ _ hil, wrt_no h6]; exact Wsb)
          · -- FfFFF
            obtain rfl : i = ac15.length := by omega
            refine GC.exit ?_
            refine GE.seq_exit ?_
            refine GE.loop_exit ?_
            refine GE.block_exit ?_
            refine GE.seq ?_
            refine GC.seq ?_
            refine GC.region ?_
            refine GL.v Wlba ?_
            refine GL.v Wmv ?_
            refine GL.callF rfl rfl (iValidCells_spec _ _ _ _ _ (by first | assumption | exact RdG.imp (by assumption) Wim | exact RdG.of_pick Wpk Wpk) _ _ _ Wrd (by first | omega | exact SizeG.le (by assumption)) Wom) ?_
            refine GL.v Wmv ?_
            refine GL.gs (fun h6 => ?_) (fun h6 => ?_)
            · -- FfFFFt
              refine GL.want rfl rfl ?_
              refine GL.v Wlba ?_
              refine GL.want rfl rfl ?_
              refine GL.v Wmv ?_
              refine GL.want rfl rfl ?_
              refine GL.v Wmv ?_
              refine GL.want rfl rfl ?_
              refine GL.call rfl rfl (iCellsAfter_spec _ _ _ _ _ (by first | assumption | exact RdG.imp (by assumption) Wim | exact RdG.of_pick Wpk Wpk) _ _ _ Wrd _ _ _ Wrd (by first | omega | exact SizeG.le (by assumption)) Wom Wom) ?_
              rintro _ _ ⟨B84, d84, rfl, rfl⟩
              rw [hba]
              refine GL.want rfl rfl ?_
              refine GL.v Wmv ?_
              refine GL.want rfl rfl ?_
              refine GL.callF rfl rfl (Tr.len2 (wrtUp xs15 ac15 ac15.length) (by simp [hwl]) (equalInts_spec _ _ _ _ (wrtUp xs15 ac15 ac15.length) Wrd _ _ (wrtUp xs15 ac15 ac15.length) Wrd (by omega))) ?_
              refine GL.v Wpt ?_
              refine GL.v Wag ?_
              refine GL.nil ?_
              refine GE.seq ?_
              refine GC.ret ?_
              -- returns, path FfFFFt
              refine GE.ret_tmp (L' := L) (.inl rfl) rfl rfl Wsb ?_
              exact ⟨by simp, rfl⟩
            · -- FfFFFf
              rw [show (validG (gr ms15) && cellsOkB (gr ms15) (aftL (gr ms15) xs15 ac15)) = true from hva] at h6; cases h6
theorem fnCellsAfter_calls {H : Type} {enc : TypeId × Value → H} {W : World} {base : Nat} {args : Array Value} {ds : List (DataW H)} {p : List MemPlace} (hval : ∀ (j : Nat) t v, Try.f7.params[j]? = some t → args[j]? = some v → Value.okWide Try.prog W .any base t v)
    (hA : DataW.TrodAll enc Try.prog W 0 (fun _ => true) true Try.f7.params.toList args.toList ds p) : Tr Try.prog 7 args W [] (fun v L' => v = .bool true ∧ L' = []) := by
  rw [Try.params7] at hA hval
  obtain ⟨v0, vs0, d0, ds0, p0, q0, hargs, rfl, rfl, h0, r0⟩ := trodAll_cons hA
  obtain ⟨rfl, rfl, rfl⟩ := trodAll_nil r0
  obtain rfl : args = #[v0] := by cases args; simp_all
  obtain ⟨A, c, bs, rfl, hR, hb⟩ := arg_sl (E := byteE) (st := 22) (by kernel_rfl) (opens_bytes W) (hval 0 _ v0 rfl rfl) h0
  exact FnCellsAfter_spec W [] A c bs hR (fun x hx => wf_u8 (hb x hx))
theorem fnCellsAfter_lifted (os : Os) (started : os.Started) (H : Type) (enc : TypeId × Value → H) :
    ReturnsInHanded {} Try.checked os 7 .any (Ytllepoepfkobfaa.Rows.fnCellsAfterSpec.pre6 enc Try.prog Try.f7 Ytllepoepfkobfaa.Rows.fnCellsAfterRow.domain false) (Ytllepoepfkobfaa.Rows.fnCellsAfterSpec.post enc Try.prog Try.f7 false true false false) := by
  refine returnsInHanded_of_change (C := Try.checked) own started (by kernel_rfl) Try.func7
    (ChangeSpec.witness6 (enc := enc) (C := Try.checked) false ⟨#[], #[.slice none 0 0], []⟩ 8 (by kernel_rfl) (by kernel_rfl) (by kernel_rfl) (by kernel_rfl)) ?_
  intro W base args ds gs before hval0 hW hcnd _
  have hval : ∀ (j : Nat) t v, Try.f7.params[j]? = some t → args[j]? = some v → Value.okWide Try.prog W .any base t v := hval0
  have hW' := hW
  obtain ⟨p, q, hA0, _⟩ := hW
  have hA : DataW.TrodAll enc Try.prog W 0 (fun _ => true) true Try.f7.params.toList args.toList ds p := hA0
  have hlen : ds.length = Try.f7.params.toList.length := trodAll_len hA
  rw [Try.params7] at hlen
  refine ((fnCellsAfter_calls hval hA).go W (St.start W)).mono ?_
  rintro e W' ⟨v, L', ⟨rfl, rfl⟩, rfl, hs⟩
  exact ⟨_, rfl, law_post kids full (by rw [Try.params7]; decide) hW' rfl (fun hg => by subst hg; match ds, hlen with | [_], _ => exact bool_res) (fun hg => by subst hg; match ds, hlen with | [_], _ => rfl) (fun hg => by subst hg; match ds, hlen with | [_], _ => rfl) hs.below⟩
theorem fnCellsAfter_over : Ytllepoepfkobfaa.Rows.fnCellsAfterRow.holds Try.pinned (OpenSpec.ofChange Ytllepoepfkobfaa.Rows.fnCellsAfterSpec) :=
  OpenClaim.holds_of_wide 7 Try.f7 rfl rfl rfl rfl rfl rfl rfl ⟨rfl, rfl, rfl, rfl, rfl⟩ rfl rfl rfl rfl rfl (by kernel_rfl) Try.func7 (by kernel_rfl)
    (of_decide_eq_true (by kernel_rfl)) (by unfold Func.isWrapper; first | (rw [if_pos (by decide +kernel)]; kernel_rfl) | (rw [if_neg (by decide +kernel)]; exact ⟨rfl, rfl⟩))
    (fun os started H enc _ => fnCellsAfter_lifted os started H enc)
end SG
namespace Go.Proofs.Ytllepoepfkobfaa
theorem fnCellsAfter_proved : Rows.FnCellsAfterSaid := SG.fnCellsAfter_over
end Go.Proofs.Ytllepoepfkobfaa
#print axioms Go.Proofs.Ytllepoepfkobfaa.fnCellsAfter_proved
