/- The law FnHeightsOf holds for every input. -/
import Derived.Test.YtphapjfhcbledaaD13
import Derived.Test.YtphapjfhcbledaaD15
import Derived.Test.YtphapjfhcbledaaD19
import Derived.Test.YtphapjfhcbledaaD20
import Derived.Test.YtphapjfhcbledaaD21
import Derived.Test.YtphapjfhcbledaaD22
import Derived.Test.YtphapjfhcbledaaPlain11
import Derived.Test.YtphapjfhcbledaaRows
namespace SG
open Go Go.RowKit Go.Proofs Go.Proofs.Ytphapjfhcbledaa Go.ChangeShapes Go.WideShapes Go.Deep
set_option linter.unusedVariables false
set_option linter.unusedSimpArgs false
set_option maxRecDepth 100000
theorem FnHeightsOf_spec (w0 : World) (L : List Asn) (A : Option Addr) (c : Nat) (bs : List Int) (hR : Rd w0 [] byteE A c bs) (hb : ∀ x ∈ bs, 0 ≤ x ∧ x ≤ 255) :
    Tr Try.prog 3 #[.slice A bs.length c] w0 L (fun v L' => v = .bool true ∧ L' = L) := by
  refine Tr.rd_cap (hR.imp Imp.nil) fun hc1 hc2 => ?_
  refine Tr.enter (args := [.slice A bs.length c]) Try.func3 Try.ntmps3 rfl rfl ?_
  refine GC.seq ?_
  refine GC.region ?_
  refine GL.v Wag ?_
  refine GL.nil ?_
  refine GE.seq ?_
  refine GC.seq ?_
  refine GC.seq ?_
  refine GC.region ?_
  refine GL.v Wmv ?_
  refine GL.v Wln ?_
  refine GL.v Wgt ?_
  refine GL.nil ?_
  refine GE.seq ?_
  refine GC.ifs (fun h1 => ?_) (fun h1 => ?_)
  · -- T
    refine GC.seq ?_
    refine GC.region ?_
    refine GL.v Wag ?_
    refine GL.nil ?_
    refine GE.seq ?_
    refine GC.ret ?_
    refine GE.seq_ret ?_
    -- returns, path T
    refine GE.ret_tmp (L' := L) (.inl rfl) rfl rfl Wsb ?_
    exact ⟨rfl, rfl⟩
  · -- F
    refine GC.skip ?_
    refine GE.seq ?_
    refine GC.seq ?_
    refine GC.region ?_
    refine GL.v Wmv ?_
    refine GL.call rfl rfl (DrawHeightsOf_spec _ _ _ _ _ (by assumption) (by assumption) (by omega) (by omega)) ?_
    rintro _ _ ⟨D12, e12, ms12, rfl, ms12a, ms12b, ms12c, rfl⟩
    have hS12 := SizeG.small ms12b ms12c
    have hten := hgtsL_ten (gr ms12)
    refine GL.alloc rfl ?_; intro g3
    refine GL.store_varN rfl rfl rfl Wpk (by rfl) (by rfl) (by rfl) ?_
    refine GL.nil ?_
    refine GE.seq ?_
    refine GC.seq ?_
    refine GC.region ?_
    refine GL.v Wlba ?_
    refine GL.call rfl rfl (iHeightsOf_spec _ _ _ _ _ (by first | assumption | exact RdG.imp (by assumption) Wim | exact RdG.of_pick Wpk Wpk) (by first | omega | exact SizeG.le (by assumption))) ?_
    rintro _ _ ⟨B14, d14, rfl, rfl⟩
    refine GL.v Wag ?_
    refine GL.nil ?_
    refine GE.seq ?_
    refine GC.seq ?_
    refine GC.seq ?_
    refine GC.region ?_
    refine GL.v Wmv ?_
    refine GL.v Wlba ?_
    refine GL.call rfl rfl (sHeightsOf_spec _ _ _ _ _ (by first | assumption | exact RdG.imp (by assumption) Wim | exact RdG.of_pick Wpk Wpk) (by assumption)) ?_
    rintro _ _ ⟨B17, d17, rfl, rfl⟩
    refine GL.callF rfl rfl (equalInts_spec _ _ _ _ _ Wrd _ _ _ Wrd Wom) ?_
    refine GL.v Wnt ?_
    refine GL.v Wmv ?_
    refine GL.gs (fun h2 => ?_) (fun h2 => ?_)
    · -- Ft
      exact absurd rfl h2
    · -- Ff
      refine GL.want rfl rfl ?_
      refine GL.v Wmv ?_
      refine GL.want rfl rfl ?_
      refine GL.v Wln ?_
      refine GL.want rfl rfl ?_
      refine GL.v Weq ?_
      refine GL.v Wpf ?_
      refine GL.nil ?_
      refine GE.seq ?_
      refine GC.ifs (fun h3 => ?_) (fun h3 => ?_)
      · -- FfT
        refine GC.seq ?_
        refine GC.region ?_
        refine GL.v Wmv ?_
        refine GL.v Wlba ?_
        refine GL.call rfl rfl (sHeightsOf_spec _ _ _ _ _ (by first | assumption | exact RdG.imp (by assumption) Wim | exact RdG.of_pick Wpk Wpk) (by assumption)) ?_
        rintro _ _ ⟨B27, d27, rfl, rfl⟩
        refine GL.callF rfl rfl (equalInts_spec _ _ _ _ _ Wrd _ _ _ Wrd Wom) ?_
        refine GL.v Wag ?_
        refine GL.nil ?_
        refine GE.seq ?_
        refine GC.ret ?_
        refine GE.seq_ret ?_
        -- returns, path FfT
        refine GE.ret_tmp (L' := L) (.inl rfl) rfl rfl Wsb ?_
        exact ⟨by simp, rfl⟩
      · -- FfF
        have hvg : validG (gr ms12) = true := by
          cases hv : validG (gr ms12) with
          | true => rfl
          | false => rw [hgtsL_no hv] at h3; simp at h3
        rw [hgtsL_yes hvg, gr_length]
        have hhl := hgtR_length (gr ms12) ms12.length
        refine GC.skip ?_
        refine GE.seq ?_
        refine GC.seq ?_
        refine GC.seq ?_
        refine GC.region ?_
        refine GL.v Wag ?_
        refine GL.nil ?_
        refine GE.seq ?_
        refine GC.block ?_
        -- loop 1: carried slots [5]
        refine GC.loopK (α := Nat) (fun i => i ≤ ms12.length) (fun i => [(5, .int .i64 i)]) [(3, _), (4, _)] (fun i => row intE B14 d14 (hgtR (gr ms12) ms12.length) :: blk g3 25 [.slice D12 ms12.length e12] :: row nodeE D12 e12 ms12 :: partsA ms12 :: L) (fun i => ms12.length - i) 0 Wkp Wsb (Nat.zero_le _) ?_
        rintro i hi
        refine GC.seq ?_
        refine GC.seq ?_
        refine GC.region ?_
        refine GL.v Wmv ?_
        refine GL.v Wmv ?_
        refine GL.v Wln ?_
        refine GL.v Wls ?_
        refine GL.nil ?_
        refine GE.seq ?_
        refine GC.ifs (fun h4 => ?_) (fun h4 => ?_)
        · -- FfFT
          have hil : i < ms12.length := by omega
          have hul := usersL_ten (gr ms12) i
          have hni := needOfL_ten (gr ms12) i
          refine GC.skip ?_
          refine GE.seq ?_
          refine GC.seq ?_
          refine GC.block ?_
          refine GC.seq ?_
          refine GC.region ?_
          refine GL.v Wlba ?_
          refine GL.v Wmv ?_
          refine GL.call rfl rfl (iUsersOf_spec _ _ _ _ _ (by first | assumption | exact RdG.imp (by assumption) Wim | exact RdG.of_pick Wpk Wpk) (by first | omega | exact SizeG.le (by assumption)) _) ?_
          rintro _ _ ⟨B37, d37, rfl, rfl⟩
          refine GL.v Wag ?_
          refine GL.nil ?_
          refine GE.seq ?_
          refine GC.seq ?_
          refine GC.seq ?_
          refine GC.region ?_
          refine GL.v Wag ?_
          refine GL.nil ?_
          refine GE.seq ?_
          refine GC.block ?_
          -- loop 2: carried slots [7]
          refine GC.loopK (α := Nat) (fun t => t ≤ (usersL (gr ms12) i).length) (fun t => [(7, .int .i64 t)]) [(3, _), (4, _), (5, _), (6, _)] (fun t => row intE B37 d37 (usersL (gr ms12) i) :: row intE B14 d14 (hgtR (gr ms12) ms12.length) :: blk g3 25 [.slice D12 ms12.length e12] :: row nodeE D12 e12 ms12 :: partsA ms12 :: L) (fun t => (usersL (gr ms12) i).length - t) 0 Wkp Wsb (Nat.zero_le _) ?_
          rintro t ht
          refine GC.seq ?_
          refine GC.seq ?_
          refine GC.region ?_
          refine GL.v Wmv ?_
          refine GL.v Wmv ?_
          refine GL.v Wln ?_
          refine GL.v Wls ?_
          refine GL.nil ?_
          refine GE.seq ?_
          refine GC.ifs (fun h5 => ?_) (fun h5 => ?_)
          · -- FfFTT
            have htl : t < (usersL (gr ms12) i).length := by omega
            have hu := users_high (List.getElem_mem htl)
            have hu2 := hu.2.1
            rw [gr_length] at hu2
            refine GC.skip ?_
            refine GE.seq ?_
            refine GC.seq ?_
            refine GC.block ?_
            refine GC.seq ?_
            refine GC.region_quiet mixed (by kernel_rfl) ?_
            refine GL.v Wmv ?_
            refine GL.v Wmv ?_
            refine GL.v Wmv ?_
            refine GL.v Wix ?_
            refine GL.v Wle ?_
            refine GL.v Wix ?_
            refine GL.v Wle ?_
            refine GL.v Wmv ?_
            refine GL.v Wmv ?_
            refine GL.v Wix ?_
            refine GL.v Wle ?_
            refine GL.v Wlq ?_
            refine GL.nil ?_
            refine GE.seq ?_
            refine GC.ifs (fun h6 => ?_) (fun h6 => ?_)
            · -- FfFTTT
              rw [hgtR_get, hgtR_get] at h6; omega
            · -- FfFTTF
              refine GC.skip ?_
              refine GE.block ?_
              refine GE.seq ?_
              refine GC.region ?_
              refine GL.v Wmv ?_
              refine GL.v Wad ?_
              refine GL.v Wag ?_
              refine GL.nil ?_
              -- round of loop 2, path FfFTTF
              refine GE.round (t + 1) (by omega) (by omega) Wkp Wsb
          · -- FfFTF
            refine GC.exit ?_
            refine GE.seq_exit ?_
            refine GE.loop_exit ?_
            refine GE.block_exit ?_
            refine GE.seq ?_
            refine GC.seq ?_
            refine GC.region_any #[false, false, false, false, false, false, false, true, false, false, false, false, false, false, false, false, false, false, false] mixed ?_
            refine GA.take 0 #[false, true, false, false, false, true, true, true, true, true, false, false, false, false, false, false, false, false, false] rfl (by exact Ev.move rfl) rfl rfl (by kernel_rfl) rfl (by kernel_rfl) (by kernel_rfl) (fun _ _ _ h => h) ?_
            refine GA.take 1 #[true, false, false, false, false, true, true, true, true, true, false, false, false, false, false, false, false, false, false] rfl (by exact Ev.move rfl) rfl rfl (by kernel_rfl) rfl (by kernel_rfl) (by kernel_rfl) (fun _ _ _ h => h) ?_
            refine GA.read 2 #[true, true, false, false, false, true, true, true, true, true, false, false, false, false, false, false, false, false, false] rfl (by exact Wix) rfl rfl (by kernel_rfl) rfl (by kernel_rfl) (by kernel_rfl) (fun _ _ _ h => h) ?_
            refine GA.read 3 #[true, true, true, false, false, true, true, true, true, true, false, false, false, false, false, false, false, false, false] rfl (by exact Wle) rfl rfl (by kernel_rfl) rfl (by kernel_rfl) (by kernel_rfl) (fun _ _ _ h => h) ?_
            refine GA.take 4 #[true, true, true, true, false, true, true, true, true, true, false, false, false, false, false, false, false, false, false] rfl (by exact Ev.eql rfl rfl) rfl rfl (by kernel_rfl) rfl (by kernel_rfl) (by kernel_rfl) (fun _ _ _ h => h) ?_
            refine GA.read 5 #[true, true, true, true, true, false, true, false, false, false, false, false, false, false, false, false, false, false, false] rfl (by exact Wlba) rfl rfl (by kernel_rfl) rfl (by kernel_rfl) (by kernel_rfl) (fun _ _ _ h => h) ?_
            refine GA.take 6 #[true, true, true, true, true, true, false, false, false, false, false, false, false, false, false, false, false, false, false] rfl (by exact Ev.move rfl) rfl rfl (by kernel_rfl) rfl (by kernel_rfl) (by kernel_rfl) (fun _ _ _ h => h) ?_
            refine GA.branch (rs := [7]) (JOk.live (by exact Wlba) (JOk.live (by exact Wle) (JOk.live (by exact Wix) JOk.nil))) (by kernel_rfl) (by simp) ?_
            refine GAs.cons rfl ?_ ?_
            · -- FfFTF op 7
              refine GL.call rfl rfl (iNeedOf_spec _ _ _ _ _ (by first | assumption | exact RdG.imp (by assumption) Wim | exact RdG.of_pick Wpk Wpk) (by first | omega | exact SizeG.le (by assumption)) _) ?_
              rintro _ _ ⟨B63, d63, rfl, rfl⟩
              refine GL.nil ?_
              refine GE.any ?_
              refine GA.take 8 #[true, true, true, true, true, true, true, true, false, false, false, false, false, false, false, false, false, false, false] rfl (by exact Ev.len rfl) rfl rfl (by kernel_rfl) rfl (by kernel_rfl) (by kernel_rfl) (fun _ _ _ h => h) ?_
              refine GA.take 9 #[true, true, true, true, true, true, true, true, true, false, false, false, false, false, false, false, false, false, false] rfl (by exact Ev.eql rfl rfl) rfl rfl (by kernel_rfl) rfl (by kernel_rfl) (by kernel_rfl) (fun _ _ _ h => h) ?_
              refine GA.take 10 #[true, true, true, true, true, true, true, true, true, true, false, false, false, false, false, false, false, false, false] rfl (by exact Ev.neq_bool rfl rfl) rfl rfl (by kernel_rfl) rfl (by kernel_rfl) (by kernel_rfl) (fun _ _ _ h => h) ?_
              refine GA.take 11 #[true, true, true, true, true, true, true, true, true, true, true, false, false, false, false, false, false, false, false] rfl (by exact Ev.move rfl) rfl rfl (by kernel_rfl) rfl (by kernel_rfl) (by kernel_rfl) (fun _ _ _ h => h) ?_
              first | refine GA.split_dec (d := 67) rfl (fun h6 => ?_) (fun h6 => ?_) | refine GA.split_ndec (d := 67) rfl (fun h6 => ?_) (fun h6 => ?_) | refine GA.split (d := 67) rfl (fun h6 => ?_) (fun h6 => ?_)
              · -- FfFTFt
                refine absurd ?_ h6; rw [hgtR_get, decide_eq_decide]; have hnh := need_height hvg (n := i) (by simpa using hil); omega
              · -- FfFTFf
                refine GA.take_want 12 #[true, true, true, true, true, true, true, true, true, true, true, true, false, true, false, false, true, false, false] rfl rfl rfl (by exact Ev.move rfl) rfl (by kernel_rfl) rfl (by kernel_rfl) (by kernel_rfl) (fun _ _ _ h => h) ?_
                refine GA.take_want 13 #[true, true, true, true, true, true, true, true, true, true, true, true, true, false, false, false, true, false, false] rfl rfl rfl (by exact Ev.move rfl) rfl (by kernel_rfl) rfl (by kernel_rfl) (by kernel_rfl) (fun _ _ _ h => h) ?_
                refine GA.read_want 14 #[true, true, true, true, true, true, true, true, true, true, true, true, true, true, false, false, true, false, false] rfl rfl rfl (by exact Wix) rfl (by kernel_rfl) rfl (by kernel_rfl) (by kernel_rfl) (fun _ _ _ h => h) ?_
                refine GA.read_want 15 #[true, true, true, true, true, true, true, true, true, true, true, true, true, true, true, false, true, false, false] rfl rfl rfl (by exact Wle) rfl (by kernel_rfl) rfl (by kernel_rfl) (by kernel_rfl) (fun _ _ _ h => h) ?_
                refine GA.take_want 16 #[true, true, true, true, true, true, true, true, true, true, true, true, true, true, true, true, false, false, false] rfl rfl rfl (by exact Ev.move rfl) rfl (by kernel_rfl) rfl (by kernel_rfl) (by kernel_rfl) (fun _ _ _ h => h) ?_
                refine GA.take_want 17 #[true, true, true, true, true, true, true, true, true, true, true, true, true, true, true, true, true, false, false] rfl rfl rfl (by exact Ev.gtr rfl rfl) rfl (by kernel_rfl) rfl (by kernel_rfl) (by kernel_rfl) (fun _ _ _ h => h) ?_
                refine GA.take 18 #[true, true, true, true, true, true, true, true, true, true, true, true, true, true, true, true, true, true, false] rfl (by exact Ev.pick_false rfl rfl) rfl rfl (by kernel_rfl) rfl (by kernel_rfl) (by kernel_rfl) (fun _ _ _ h => h) ?_
                refine GA.done (JOk.live (by exact Wle) (JOk.live (by exact Wix) (JOk.dead (by kernel_rfl) (JOk.live (by exact Wle) (JOk.live (by exact Wix) JOk.nil))))) (by kernel_rfl) ?_
                refine GE.seq ?_
                refine GC.ifs (fun h7 => ?_) (fun h7 => ?_)
                · -- FfFTFfT
                  rw [hgtR_get] at h7; have hle := hgt_le (validG_iff.1 hvg) i; omega
                · -- FfFTFfF
                  refine GC.skip ?_
                  refine GE.block ?_
                  refine GE.seq ?_
                  refine GC.region ?_
                  refine GL.v Wmv ?_
                  refine GL.v Wad ?_
                  refine GL.v Wag ?_
                  refine GL.nil ?_
                  -- round of loop 1, path FfFTFfF
                  refine GE.round (i + 1) (by omega) (by omega) Wkp Wsb
            exact GAs.nil
        · -- FfFF
          refine GC.exit ?_
          refine GE.seq_exit ?_
          refine GE.loop_exit ?_
          refine GE.block_exit ?_
          refine GE.seq ?_
          refine GC.seq ?_
          refine GC.region ?_
          refine GL.v Wag ?_
          refine GL.nil ?_
          refine GE.seq ?_
          refine GC.ret ?_
          -- returns, path FfFF
          refine GE.ret_tmp (L' := L) (.inl rfl) rfl rfl Wsb ?_
          exact ⟨rfl, rfl⟩
theorem fnHeightsOf_calls {H : Type} {enc : TypeId × Value → H} {W : World} {base : Nat} {args : Array Value} {ds : List (DataW H)} {p : List MemPlace} (hval : ∀ (j : Nat) t v, Try.f3.params[j]? = some t → args[j]? = some v → Value.okWide Try.prog W .any base t v)
    (hA : DataW.TrodAll enc Try.prog W 0 (fun _ => true) true Try.f3.params.toList args.toList ds p) : Tr Try.prog 3 args W [] (fun v L' => v = .bool true ∧ L' = []) := by
  rw [Try.params3] at hA hval
  obtain ⟨v0, vs0, d0, ds0, p0, q0, hargs, rfl, rfl, h0, r0⟩ := trodAll_cons hA
  obtain ⟨rfl, rfl, rfl⟩ := trodAll_nil r0
  obtain rfl : args = #[v0] := by cases args; simp_all
  obtain ⟨A, c, bs, rfl, hR, hb⟩ := arg_sl (E := byteE) (st := 22) (by kernel_rfl) (opens_bytes W) (hval 0 _ v0 rfl rfl) h0
  exact FnHeightsOf_spec W [] A c bs hR (fun x hx => wf_u8 (hb x hx))
theorem fnHeightsOf_lifted (os : Os) (started : os.Started) (H : Type) (enc : TypeId × Value → H) :
    ReturnsInHanded {} Try.checked os 3 .any (Ytphapjfhcbledaa.Rows.fnHeightsOfSpec.pre6 enc Try.prog Try.f3 Ytphapjfhcbledaa.Rows.fnHeightsOfRow.domain false) (Ytphapjfhcbledaa.Rows.fnHeightsOfSpec.post enc Try.prog Try.f3 false true false false) := by
  refine returnsInHanded_of_change (C := Try.checked) own started (by kernel_rfl) Try.func3
    (ChangeSpec.witness6 (enc := enc) (C := Try.checked) false ⟨#[], #[.slice none 0 0], []⟩ 8 (by kernel_rfl) (by kernel_rfl) (by kernel_rfl) (by kernel_rfl)) ?_
  intro W base args ds gs before hval0 hW hcnd _
  have hval : ∀ (j : Nat) t v, Try.f3.params[j]? = some t → args[j]? = some v → Value.okWide Try.prog W .any base t v := hval0
  have hW' := hW
  obtain ⟨p, q, hA0, _⟩ := hW
  have hA : DataW.TrodAll enc Try.prog W 0 (fun _ => true) true Try.f3.params.toList args.toList ds p := hA0
  have hlen : ds.length = Try.f3.params.toList.length := trodAll_len hA
  rw [Try.params3] at hlen
  refine ((fnHeightsOf_calls hval hA).go W (St.start W)).mono ?_
  rintro e W' ⟨v, L', ⟨rfl, rfl⟩, rfl, hs⟩
  exact ⟨_, rfl, law_post kids full (by rw [Try.params3]; decide) hW' rfl (fun hg => by subst hg; match ds, hlen with | [_], _ => exact bool_res) (fun hg => by subst hg; match ds, hlen with | [_], _ => rfl) (fun hg => by subst hg; match ds, hlen with | [_], _ => rfl) hs.below⟩
theorem fnHeightsOf_over : Ytphapjfhcbledaa.Rows.fnHeightsOfRow.holds Try.pinned (OpenSpec.ofChange Ytphapjfhcbledaa.Rows.fnHeightsOfSpec) :=
  OpenClaim.holds_of_wide 3 Try.f3 rfl rfl rfl rfl rfl rfl rfl ⟨rfl, rfl, rfl, rfl, rfl⟩ rfl rfl rfl rfl rfl (by kernel_rfl) Try.func3 (by kernel_rfl)
    (of_decide_eq_true (by kernel_rfl)) (by unfold Func.isWrapper; first | (rw [if_pos (by decide +kernel)]; kernel_rfl) | (rw [if_neg (by decide +kernel)]; exact ⟨rfl, rfl⟩))
    (fun os started H enc _ => fnHeightsOf_lifted os started H enc)
end SG
namespace Go.Proofs.Ytphapjfhcbledaa
theorem fnHeightsOf_proved : Rows.FnHeightsOfSaid := SG.fnHeightsOf_over
end Go.Proofs.Ytphapjfhcbledaa
#print axioms Go.Proofs.Ytphapjfhcbledaa.fnHeightsOf_proved
