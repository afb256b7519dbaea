/- The law FnMayRun holds for every input. -/
import Derived.Test.YtojffodplphlaaaD13
import Derived.Test.YtojffodplphlaaaD20
import Derived.Test.YtojffodplphlaaaD22
import Derived.Test.YtojffodplphlaaaD37
import Derived.Test.YtojffodplphlaaaD39
import Derived.Test.YtojffodplphlaaaRows
namespace SG
open Go Go.RowKit Go.Proofs Go.Proofs.Ytojffodplphlaaa Go.ChangeShapes Go.WideShapes Go.Deep
set_option linter.unusedVariables false
set_option linter.unusedSimpArgs false
set_option maxRecDepth 100000
theorem FnMayRun_spec (w0 : World) (L : List Asn) (A : Option Addr) (c : Nat) (bs : List Int) (hR : Rd w0 [] byteE A c bs) (hb : ∀ x ∈ bs, 0 ≤ x ∧ x ≤ 255) :
    Tr Try.prog 9 #[.slice A bs.length c] w0 L (fun v L' => v = .bool true ∧ L' = L) := by
  refine Tr.rd_cap (hR.imp Imp.nil) fun hc1 hc2 => ?_
  refine Tr.enter (args := [.slice A bs.length c]) Try.func9 Try.ntmps9 rfl rfl ?_
  refine GC.seq ?_
  refine GC.region ?_
  refine GL.v Wag ?_
  refine GL.nil ?_
  refine GE.seq ?_
  refine GC.seq ?_
  refine GC.seq ?_
  refine GC.region ?_
  refine GL.v Wmv ?_
  refine GL.v Wln ?_
  refine GL.v Wgt ?_
  refine GL.nil ?_
  refine GE.seq ?_
  refine GC.ifs (fun h1 => ?_) (fun h1 => ?_)
  · -- T
    refine GC.seq ?_
    refine GC.region ?_
    refine GL.v Wag ?_
    refine GL.nil ?_
    refine GE.seq ?_
    refine GC.ret ?_
    refine GE.seq_ret ?_
    -- returns, path T
    refine GE.ret_tmp (L' := L) (.inl rfl) rfl rfl Wsb ?_
    exact ⟨rfl, rfl⟩
  · -- F
    refine GC.skip ?_
    refine GE.seq ?_
    refine GC.seq ?_
    refine GC.region ?_
    refine GL.v Wmv ?_
    refine GL.call rfl rfl (DrawMayRun_spec _ _ _ _ _ (by assumption) (by assumption) (by omega) (by omega)) ?_
    rintro _ _ ⟨D14, e14, ms14, B14, d14, ns14, rfl, ms14a, ms14b, ms14c, ns14a, rfl⟩
    have hS14 := SizeG.small ms14b ms14c
    refine GL.v Wmv ?_
    refine GL.v Wxt ?_
    refine GL.v Wxt ?_
    refine GL.alloc rfl ?_; intro g3
    refine GL.store_varN rfl rfl rfl Wpk (by rfl) (by rfl) (by rfl) ?_
    refine GL.v Wag ?_
    refine GL.nil ?_
    refine GE.seq ?_
    refine GC.seq ?_
    refine GC.region ?_
    refine GL.v Wlba ?_
    refine GL.v Wmv ?_
    refine GL.call rfl rfl (iMayRun_spec _ _ _ _ _ (by first | assumption | exact RdG.imp (by assumption) Wim | exact RdG.of_pick Wpk Wpk) _ _ _ Wrd (by first | omega | exact SizeG.le (by assumption)) Wom) ?_
    rintro _ _ ⟨B19, d19, rfl, rfl⟩
    have hten := mayRunL_ten (gr ms14) ns14
    refine GL.v Wag ?_
    refine GL.nil ?_
    refine GE.seq ?_
    refine GC.seq ?_
    refine GC.seq ?_
    refine GC.region ?_
    refine GL.v Wmv ?_
    refine GL.v Wlba ?_
    refine GL.v Wmv ?_
    refine GL.call rfl rfl (sMayRun_spec _ _ _ _ _ (by first | assumption | exact RdG.imp (by assumption) Wim | exact RdG.of_pick Wpk Wpk) _ _ _ Wrd (by assumption) Wom) ?_
    rintro _ _ ⟨B23, d23, rfl, rfl⟩
    refine GL.callF rfl rfl (equalInts_spec _ _ _ _ _ Wrd _ _ _ Wrd Wom) ?_
    refine GL.v Wnt ?_
    refine GL.v Wmv ?_
    refine GL.gs (fun h2 => ?_) (fun h2 => ?_)
    · -- Ft
      exact absurd rfl h2
    · -- Ff
      refine GL.want rfl rfl ?_
      refine GL.v Wmv ?_
      refine GL.want rfl rfl ?_
      refine GL.v Wln ?_
      refine GL.want rfl rfl ?_
      refine GL.v Weq ?_
      refine GL.v Wpf ?_
      refine GL.nil ?_
      refine GE.seq ?_
      refine GC.ifs (fun h3 => ?_) (fun h3 => ?_)
      · -- FfT
        refine GC.seq ?_
        refine GC.region ?_
        refine GL.v Wmv ?_
        refine GL.v Wlba ?_
        refine GL.v Wmv ?_
        refine GL.call rfl rfl (sMayRun_spec _ _ _ _ _ (by first | assumption | exact RdG.imp (by assumption) Wim | exact RdG.of_pick Wpk Wpk) _ _ _ Wrd (by assumption) Wom) ?_
        rintro _ _ ⟨B34, d34, rfl, rfl⟩
        refine GL.callF rfl rfl (equalInts_spec _ _ _ _ _ Wrd _ _ _ Wrd Wom) ?_
        refine GL.v Wag ?_
        refine GL.nil ?_
        refine GE.seq ?_
        refine GC.ret ?_
        refine GE.seq_ret ?_
        -- returns, path FfT
        refine GE.ret_tmp (L' := L) (.inl rfl) rfl rfl Wsb ?_
        exact ⟨by simp, rfl⟩
      · -- FfF
        obtain ⟨hV, hW⟩ := mayRunL_some (gs := gr ms14) (ns := ns14) (fun h => h3 (by rw [h]; rfl))
        have hasc := mayRunL_asc (gr ms14) ns14
        refine GC.skip ?_
        refine GE.seq ?_
        refine GC.seq ?_
        refine GC.region ?_
        refine GL.buildSlice rfl (by first | exact bsInt0 | exact bsInt1 _ | exact bsInt2 _ _ | exact bsInt3 _ _ _ | exact bsInt4 _ _ _ _ | exact bsInt5 _ _ _ _ _ | exact bsInt6 _ _ _ _ _ _ | exact bsInt7 _ _ _ _ _ _ _ | exact bsInt8 _ _ _ _ _ _ _ _ | exact bsInt9 _ _ _ _ _ _ _ _ _ | exact bsInt10 _ _ _ _ _ _ _ _ _ _ | exact bsPart0 | exact bsPart1 ⟨_, _, _, _, _⟩ | exact bsNode1 ⟨_, _, _, _⟩ | exact bsPtr3 _ _ _ | exact bsSl0 | exact bsSl1 ⟨_, _, _⟩) rfl (by decide) rfl ?_; intro g36
        refine GL.v Wag ?_
        refine GL.nil ?_
        refine GE.seq ?_
        refine GC.seq ?_
        refine GC.seq ?_
        refine GC.region ?_
        refine GL.v Wag ?_
        refine GL.nil ?_
        refine GE.seq ?_
        refine GC.block ?_
        -- loop 1: carried slots [6, 7]
        refine GC.loopK (α := Nat × Option Addr × Nat) (fun x => x.1 ≤ ns14.length) (fun x => [(6, .slice x.2.1 (reachAll (gr ms14) ns14 x.1).length x.2.2), (7, .int .i64 x.1)]) [(3, _), (4, _), (5, _)] (fun x => row intE x.2.1 x.2.2 (reachAll (gr ms14) ns14 x.1) :: row intE B19 d19 (mayRunL (gr ms14) ns14) :: blk g3 25 [.slice D14 ms14.length e14] :: row nodeE D14 e14 ms14 :: partsA ms14 :: row intE B14 d14 ns14 :: L) (fun x => ns14.length - x.1) (0, some ⟨g36, 0, none⟩, 0) Wkp Wsb (Nat.zero_le _) ?_
        rintro ⟨k, E, f⟩ hk
        dsimp only at hk ⊢
        have hral := reachAll_length (gr ms14) ns14 k
        refine GC.seq ?_
        refine GC.seq ?_
        refine GC.region ?_
        refine GL.v Wmv ?_
        refine GL.v Wmv ?_
        refine GL.v Wln ?_
        refine GL.v Wls ?_
        refine GL.nil ?_
        refine GE.seq ?_
        refine GC.ifs (fun h4 => ?_) (fun h4 => ?_)
        · -- FfFT
          have hkl : k < ns14.length := by omega
          have hrt := reachOfL_ten (gr ms14) ns14[k]
          refine GC.skip ?_
          refine GE.seq ?_
          refine GC.seq ?_
          refine GC.block ?_
          refine GC.region_any #[false, false, false, false, false, false, true, true, false] mixed ?_
          refine GA.take 0 #[false, true, true, true, true, true, true, false, false] rfl (by exact Ev.move rfl) rfl rfl (by kernel_rfl) rfl (by kernel_rfl) (by kernel_rfl) (fun _ _ _ h => h) ?_
          refine GA.read 1 #[true, false, true, true, true, true, false, false, false] rfl (by exact Wlba) rfl rfl (by kernel_rfl) rfl (by kernel_rfl) (by kernel_rfl) (fun _ _ _ h => h) ?_
          refine GA.take 2 #[true, true, false, true, false, false, false, false, false] rfl (by exact Ev.move rfl) rfl rfl (by kernel_rfl) rfl (by kernel_rfl) (by kernel_rfl) (fun _ _ _ h => h) ?_
          refine GA.take 3 #[true, true, true, false, false, false, false, false, false] rfl (by exact Ev.move rfl) rfl rfl (by kernel_rfl) rfl (by kernel_rfl) (by kernel_rfl) (fun _ _ _ h => h) ?_
          refine GA.read 4 #[true, true, true, true, false, false, false, false, false] rfl (by exact Wix) rfl rfl (by kernel_rfl) rfl (by kernel_rfl) (by kernel_rfl) (fun _ _ _ h => h) ?_
          refine GA.read 5 #[true, true, true, true, true, false, false, false, false] rfl (by exact Wle) rfl rfl (by kernel_rfl) rfl (by kernel_rfl) (by kernel_rfl) (fun _ _ _ h => h) ?_
          refine GA.branch (rs := [6]) (JOk.live (by exact Wle) (JOk.live (by exact Wix) (JOk.live (by exact Wlba) JOk.nil))) (by kernel_rfl) (by simp) ?_
          refine GAs.cons rfl ?_ ?_
          · -- FfFT op 6
            refine GL.call rfl rfl (iReachOf_spec _ _ _ _ _ (by first | assumption | exact RdG.imp (by assumption) Wim | exact RdG.of_pick Wpk Wpk) (by first | omega | exact SizeG.le (by assumption)) _) ?_
            rintro _ _ ⟨B49, d49, rfl, rfl⟩
            refine GL.nil ?_
            refine GE.any ?_
            refine GA.branch (rs := [7]) (JOk.dead (by kernel_rfl) (JOk.dead (by kernel_rfl) (JOk.dead (by kernel_rfl) JOk.nil))) (by kernel_rfl) (by simp) ?_
            refine GAs.cons rfl ?_ ?_
            · -- FfFT op 7
              refine GL.call rfl rfl (ljoin_spec _ _ _ _ _ Wrd _ _ _ Wrd Wom Wom) ?_
              rintro _ _ ⟨B50, d50, rfl, rfl⟩
              refine GL.nil ?_
              refine GE.any ?_
              refine GA.take 8 #[true, true, true, true, true, true, true, true, false] rfl (by exact Ev.assign rfl) rfl rfl (by kernel_rfl) rfl (by kernel_rfl) (by kernel_rfl) (fun _ _ _ h => h) ?_
              refine GA.done (JOk.dead (by kernel_rfl) (JOk.dead (by kernel_rfl) (JOk.dead (by kernel_rfl) JOk.nil))) (by kernel_rfl) ?_
              refine GE.block ?_
              refine GE.seq ?_
              refine GC.region ?_
              refine GL.v Wmv ?_
              refine GL.v Wad ?_
              refine GL.v Wag ?_
              refine GL.nil ?_
              -- round of loop 1, path FfFT
              rw [reachAll_succ _ _ hkl]
              refine GE.round (k + 1, _, _) (by dsimp only; omega) (by dsimp only; omega) Wkp Wsb
            exact GAs.nil
          exact GAs.nil
        · -- FfFF
          obtain rfl : k = ns14.length := by omega
          refine GC.exit ?_
          refine GE.seq_exit ?_
          refine GE.loop_exit ?_
          refine GE.block_exit ?_
          refine GE.seq ?_
          refine GC.seq ?_
          refine GC.seq ?_
          refine GC.region ?_
          refine GL.v Wag ?_
          refine GL.nil ?_
          refine GE.seq ?_
          refine GC.block ?_
          -- loop 2: carried slots [8]
          refine GC.loopK (α := Nat) (fun i => i ≤ ms14.length) (fun i => [(8, .int .i64 i)]) [(3, _), (5, _), (6, _)] (fun i => row intE E f (reachAll (gr ms14) ns14 ns14.length) :: row intE B19 d19 (mayRunL (gr ms14) ns14) :: blk g3 25 [.slice D14 ms14.length e14] :: row nodeE D14 e14 ms14 :: partsA ms14 :: row intE B14 d14 ns14 :: L) (fun i => ms14.length - i) 0 Wkp Wsb (Nat.zero_le _) ?_
          rintro i hi
          refine GC.seq ?_
          refine GC.seq ?_
          refine GC.region ?_
          refine GL.v Wmv ?_
          refine GL.v Wfa ?_
          refine GL.v Wlb ?_
          refine GL.v Wln ?_
          refine GL.v Wls ?_
          refine GL.nil ?_
          refine GE.seq ?_
          refine GC.ifs (fun h5 => ?_) (fun h5 => ?_)
          · -- FfFFT
            have hil : i < ms14.length := by omega
            have hki : kindAt (gr ms14) i = ms14[i].kind := by rw [kindAt_gr (k := i) (by omega)]; rfl
            have hmi := mayRun_is hV hW (i := i) (by simpa using hil)
            rw [hki] at hmi
            refine GC.skip ?_
            refine GE.seq ?_
            refine GC.seq ?_
            refine GC.block ?_
            refine GC.seq ?_
            refine GC.region ?_
            refine GL.v Wmv ?_
            refine GL.v Wmv ?_
            refine GL.callF rfl rfl (isIn_spec _ _ _ _ _ Wrd _ Wom) ?_
            refine GL.v Wmv ?_
            refine GL.v Wmv ?_
            refine GL.callF rfl rfl (isIn_spec _ _ _ _ _ Wrd _ Wom) ?_
            refine GL.v Wmv ?_
            refine GL.gs (fun h6 => ?_) (fun h6 => ?_)
            · -- FfFFTt
              refine GL.want rfl rfl ?_
              refine GL.v Wfa ?_
              refine GL.want rfl rfl ?_
              refine GL.v Wlb ?_
              refine GL.want rfl rfl ?_
              refine GL.v Wmv ?_
              refine GL.want rfl rfl ?_
              refine GL.v Wix ?_
              refine GL.want rfl rfl ?_
              refine GL.v Wfa ?_
              refine GL.want rfl rfl ?_
              refine GL.v Wlef ?_
              refine GL.want rfl rfl ?_
              refine GL.v Wnq ?_
              refine GL.v Wpt ?_
              refine GL.v (by exact EvP.r (Ev.neq_bool rfl rfl)) ?_
              refine GL.nil ?_
              refine GE.seq ?_
              refine GC.ifs (fun h7 => ?_) (fun h7 => ?_)
              · -- FfFFTtT
                exact absurd (hmi.trans (by rw [h6]; simp)) h7
              · -- FfFFTtF
                refine GC.skip ?_
                refine GE.block ?_
                refine GE.seq ?_
                refine GC.region ?_
                refine GL.v Wmv ?_
                refine GL.v Wad ?_
                refine GL.v Wag ?_
                refine GL.nil ?_
                -- round of loop 2, path FfFFTtF
                refine GE.round (i + 1) (by omega) (by omega) Wkp Wsb
            · -- FfFFTf
              refine GL.unwant rfl rfl rfl rfl ?_
              refine GL.unwant rfl rfl rfl rfl ?_
              refine GL.unwant rfl rfl rfl rfl ?_
              refine GL.unwant rfl rfl rfl rfl ?_
              refine GL.unwant rfl rfl rfl rfl ?_
              refine GL.unwant rfl rfl rfl rfl ?_
              refine GL.unwant rfl rfl rfl rfl ?_
              refine GL.v Wpf ?_
              refine GL.v (by exact EvP.r (Ev.neq_bool rfl rfl)) ?_
              refine GL.nil ?_
              refine GE.seq ?_
              refine GC.ifs (fun h7 => ?_) (fun h7 => ?_)
              · -- FfFFTfT
                exact absurd (hmi.trans (by rw [h6]; rfl)) h7
              · -- FfFFTfF
                refine GC.skip ?_
                refine GE.block ?_
                refine GE.seq ?_
                refine GC.region ?_
                refine GL.v Wmv ?_
                refine GL.v Wad ?_
                refine GL.v Wag ?_
                refine GL.nil ?_
                -- round of loop 2, path FfFFTfF
                refine GE.round (i + 1) (by omega) (by omega) Wkp Wsb
          · -- FfFFF
            refine GC.exit ?_
            refine GE.seq_exit ?_
            refine GE.loop_exit ?_
            refine GE.block_exit ?_
            refine GE.seq ?_
            refine GC.seq ?_
            refine GC.region ?_
            refine GL.v Wmv ?_
            refine GL.callF rfl rfl (ascends_spec _ _ _ _ _ Wrd Wom (by first | assumption | exact asc_mayL _)) ?_
            refine GL.v Wag ?_
            refine GL.nil ?_
            refine GE.seq ?_
            refine GC.ret ?_
            -- returns, path FfFFF
            refine GE.ret_tmp (L' := L) (.inl rfl) rfl rfl Wsb ?_
            exact ⟨rfl, rfl⟩
theorem fnMayRun_calls {H : Type} {enc : TypeId × Value → H} {W : World} {base : Nat} {args : Array Value} {ds : List (DataW H)} {p : List MemPlace} (hval : ∀ (j : Nat) t v, Try.f9.params[j]? = some t → args[j]? = some v → Value.okWide Try.prog W .any base t v)
    (hA : DataW.TrodAll enc Try.prog W 0 (fun _ => true) true Try.f9.params.toList args.toList ds p) : Tr Try.prog 9 args W [] (fun v L' => v = .bool true ∧ L' = []) := by
  rw [Try.params9] at hA hval
  obtain ⟨v0, vs0, d0, ds0, p0, q0, hargs, rfl, rfl, h0, r0⟩ := trodAll_cons hA
  obtain ⟨rfl, rfl, rfl⟩ := trodAll_nil r0
  obtain rfl : args = #[v0] := by cases args; simp_all
  obtain ⟨A, c, bs, rfl, hR, hb⟩ := arg_sl (E := byteE) (st := 22) (by kernel_rfl) (opens_bytes W) (hval 0 _ v0 rfl rfl) h0
  exact FnMayRun_spec W [] A c bs hR (fun x hx => wf_u8 (hb x hx))
theorem fnMayRun_lifted (os : Os) (started : os.Started) (H : Type) (enc : TypeId × Value → H) :
    ReturnsInHanded {} Try.checked os 9 .any (Ytojffodplphlaaa.Rows.fnMayRunSpec.pre6 enc Try.prog Try.f9 Ytojffodplphlaaa.Rows.fnMayRunRow.domain false) (Ytojffodplphlaaa.Rows.fnMayRunSpec.post enc Try.prog Try.f9 false true false false) := by
  refine returnsInHanded_of_change (C := Try.checked) own started (by kernel_rfl) Try.func9
    (ChangeSpec.witness6 (enc := enc) (C := Try.checked) false ⟨#[], #[.slice none 0 0], []⟩ 8 (by kernel_rfl) (by kernel_rfl) (by kernel_rfl) (by kernel_rfl)) ?_
  intro W base args ds gs before hval0 hW hcnd _
  have hval : ∀ (j : Nat) t v, Try.f9.params[j]? = some t → args[j]? = some v → Value.okWide Try.prog W .any base t v := hval0
  have hW' := hW
  obtain ⟨p, q, hA0, _⟩ := hW
  have hA : DataW.TrodAll enc Try.prog W 0 (fun _ => true) true Try.f9.params.toList args.toList ds p := hA0
  have hlen : ds.length = Try.f9.params.toList.length := trodAll_len hA
  rw [Try.params9] at hlen
  refine ((fnMayRun_calls hval hA).go W (St.start W)).mono ?_
  rintro e W' ⟨v, L', ⟨rfl, rfl⟩, rfl, hs⟩
  exact ⟨_, rfl, law_post kids full (by rw [Try.params9]; decide) hW' rfl (fun hg => by subst hg; match ds, hlen with | [_], _ => exact bool_res) (fun hg => by subst hg; match ds, hlen with | [_], _ => rfl) (fun hg => by subst hg; match ds, hlen with | [_], _ => rfl) hs.below⟩
theorem fnMayRun_over : Ytojffodplphlaaa.Rows.fnMayRunRow.holds Try.pinned (OpenSpec.ofChange Ytojffodplphlaaa.Rows.fnMayRunSpec) :=
  OpenClaim.holds_of_wide 9 Try.f9 rfl rfl rfl rfl rfl rfl rfl ⟨rfl, rfl, rfl, rfl, rfl⟩ rfl rfl rfl rfl rfl (by kernel_rfl) Try.func9 (by kernel_rfl)
    (of_decide_eq_true (by kernel_rfl)) (by unfold Func.isWrapper; first | (rw [if_pos (by decide +kernel)]; kernel_rfl) | (rw [if_neg (by decide +kernel)]; exact ⟨rfl, rfl⟩))
    (fun os started H enc _ => fnMayRun_lifted os started H enc)
end SG
namespace Go.Proofs.Ytojffodplphlaaa
theorem fnMayRun_proved : Rows.FnMayRunSaid := SG.fnMayRun_over
end Go.Proofs.Ytojffodplphlaaa
#print axioms Go.Proofs.Ytojffodplphlaaa.fnMayRun_proved
