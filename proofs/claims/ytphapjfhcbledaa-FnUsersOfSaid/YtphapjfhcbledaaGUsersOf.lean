/- The law FnUsersOf holds for every input. -/
import Derived.Test.YtphapjfhcbledaaD13
import Derived.Test.YtphapjfhcbledaaD15
import Derived.Test.YtphapjfhcbledaaD19
import Derived.Test.YtphapjfhcbledaaD20
import Derived.Test.YtphapjfhcbledaaD21
import Derived.Test.YtphapjfhcbledaaD22
import Derived.Test.YtphapjfhcbledaaPlain11
import Derived.Test.YtphapjfhcbledaaRows
namespace SG
open Go Go.RowKit Go.Proofs Go.Proofs.Ytphapjfhcbledaa Go.ChangeShapes Go.WideShapes Go.Deep
set_option linter.unusedVariables false
set_option linter.unusedSimpArgs false
set_option maxRecDepth 100000
theorem FnUsersOf_spec (w0 : World) (L : List Asn) (A : Option Addr) (c : Nat) (bs : List Int) (hR : Rd w0 [] byteE A c bs) (hb : ∀ x ∈ bs, 0 ≤ x ∧ x ≤ 255) :
    Tr Try.prog 4 #[.slice A bs.length c] w0 L (fun v L' => v = .bool true ∧ L' = L) := by
  refine Tr.rd_cap (hR.imp Imp.nil) fun hc1 hc2 => ?_
  refine Tr.enter (args := [.slice A bs.length c]) Try.func4 Try.ntmps4 rfl rfl ?_
  refine GC.seq ?_
  refine GC.region ?_
  refine GL.v Wag ?_
  refine GL.nil ?_
  refine GE.seq ?_
  refine GC.seq ?_
  refine GC.seq ?_
  refine GC.region ?_
  refine GL.v Wmv ?_
  refine GL.v Wln ?_
  refine GL.v Wgt ?_
  refine GL.nil ?_
  refine GE.seq ?_
  refine GC.ifs (fun h1 => ?_) (fun h1 => ?_)
  · -- T
    refine GC.seq ?_
    refine GC.region ?_
    refine GL.v Wag ?_
    refine GL.nil ?_
    refine GE.seq ?_
    refine GC.ret ?_
    refine GE.seq_ret ?_
    -- returns, path T
    refine GE.ret_tmp (L' := L) (.inl rfl) rfl rfl Wsb ?_
    exact ⟨rfl, rfl⟩
  · -- F
    refine GC.skip ?_
    refine GE.seq ?_
    refine GC.seq ?_
    refine GC.region ?_
    refine GL.v Wmv ?_
    refine GL.call rfl rfl (DrawUsersOf_spec _ _ _ _ _ (by assumption) (by assumption) (by omega) (by omega)) ?_
    rintro _ _ ⟨D12, e12, ms12, n12, rfl, ms12a, ms12b, ms12c, n12a, n12b, rfl⟩
    have hS12 := SizeG.small ms12b ms12c
    have hten := usersL_ten (gr ms12) n12
    have hasc : Asc (usersL (gr ms12) n12) := onlyL_asc _ _ _
    refine GL.v Wmv ?_
    refine GL.v Wxt ?_
    refine GL.v Wxt ?_
    refine GL.alloc rfl ?_; intro g3
    refine GL.store_varN rfl rfl rfl Wpk (by rfl) (by rfl) (by rfl) ?_
    refine GL.v Wag ?_
    refine GL.nil ?_
    refine GE.seq ?_
    refine GC.seq ?_
    refine GC.region ?_
    refine GL.v Wlba ?_
    refine GL.v Wmv ?_
    refine GL.call rfl rfl (iUsersOf_spec _ _ _ _ _ (by first | assumption | exact RdG.imp (by assumption) Wim | exact RdG.of_pick Wpk Wpk) (by first | omega | exact SizeG.le (by assumption)) _) ?_
    rintro _ _ ⟨B17, d17, rfl, rfl⟩
    refine GL.v Wag ?_
    refine GL.nil ?_
    refine GE.seq ?_
    refine GC.seq ?_
    refine GC.seq ?_
    refine GC.region ?_
    refine GL.v Wmv ?_
    refine GL.v Wlba ?_
    refine GL.v Wmv ?_
    refine GL.call rfl rfl (sUsersOf_spec _ _ _ _ _ (by first | assumption | exact RdG.imp (by assumption) Wim | exact RdG.of_pick Wpk Wpk) (by assumption) _) ?_
    rintro _ _ ⟨B21, d21, rfl, rfl⟩
    refine GL.callF rfl rfl (equalInts_spec _ _ _ _ _ Wrd _ _ _ Wrd Wom) ?_
    refine GL.v Wnt ?_
    refine GL.v Wmv ?_
    refine GL.gs (fun h2 => ?_) (fun h2 => ?_)
    · -- Ft
      exact absurd rfl h2
    · -- Ff
      refine GL.want rfl rfl ?_
      refine GL.v Wlba ?_
      refine GL.want rfl rfl ?_
      refine GL.callF rfl rfl (iValidGraph_spec _ _ _ _ _ (by first | assumption | exact RdG.imp (by assumption) Wim | exact RdG.of_pick Wpk Wpk) (by first | omega | exact SizeG.le (by assumption))) ?_
      refine GL.want rfl rfl ?_
      refine GL.v Wnt ?_
      refine GL.v Wpf ?_
      refine GL.v Wmv ?_
      refine GL.gs (fun h3 => ?_) (fun h3 => ?_)
      · -- Fft
        refine GL.unwant rfl rfl rfl rfl ?_
        refine GL.unwant rfl rfl rfl rfl ?_
        refine GL.v Wpt ?_
        refine GL.v Wmv ?_
        refine GL.unwant rfl rfl rfl rfl ?_
        refine GL.unwant rfl rfl rfl rfl ?_
        refine GL.unwant rfl rfl rfl rfl ?_
        refine GL.unwant rfl rfl rfl rfl ?_
        refine GL.unwant rfl rfl rfl rfl ?_
        refine GL.v Wpt ?_
        refine GL.nil ?_
        refine GE.seq ?_
        refine GC.cond_true rfl ?_
        refine GC.seq ?_
        refine GC.region ?_
        refine GL.v Wmv ?_
        refine GL.v Wlba ?_
        refine GL.v Wmv ?_
        refine GL.call rfl rfl (sUsersOf_spec _ _ _ _ _ (by first | assumption | exact RdG.imp (by assumption) Wim | exact RdG.of_pick Wpk Wpk) (by assumption) _) ?_
        rintro _ _ ⟨B43, d43, rfl, rfl⟩
        refine GL.callF rfl rfl (equalInts_spec _ _ _ _ _ Wrd _ _ _ Wrd Wom) ?_
        refine GL.v Wag ?_
        refine GL.nil ?_
        refine GE.seq ?_
        refine GC.ret ?_
        refine GE.seq_ret ?_
        -- returns, path Fft
        refine GE.ret_tmp (L' := L) (.inl rfl) rfl rfl Wsb ?_
        exact ⟨by simp, rfl⟩
      · -- Fff
        refine GL.want rfl rfl ?_
        refine GL.v Wmv ?_
        refine GL.want rfl rfl ?_
        refine GL.v Wls ?_
        refine GL.v Wpf ?_
        refine GL.v Wmv ?_
        refine GL.gs (fun h4 => ?_) (fun h4 => ?_)
        · -- Ffft
          refine GL.unwant rfl rfl rfl rfl ?_
          refine GL.unwant rfl rfl rfl rfl ?_
          refine GL.unwant rfl rfl rfl rfl ?_
          refine GL.unwant rfl rfl rfl rfl ?_
          refine GL.unwant rfl rfl rfl rfl ?_
          refine GL.v Wpt ?_
          refine GL.nil ?_
          refine GE.seq ?_
          refine GC.cond_true rfl ?_
          refine GC.seq ?_
          refine GC.region ?_
          refine GL.v Wmv ?_
          refine GL.v Wlba ?_
          refine GL.v Wmv ?_
          refine GL.call rfl rfl (sUsersOf_spec _ _ _ _ _ (by first | assumption | exact RdG.imp (by assumption) Wim | exact RdG.of_pick Wpk Wpk) (by assumption) _) ?_
          rintro _ _ ⟨B43, d43, rfl, rfl⟩
          refine GL.callF rfl rfl (equalInts_spec _ _ _ _ _ Wrd _ _ _ Wrd Wom) ?_
          refine GL.v Wag ?_
          refine GL.nil ?_
          refine GE.seq ?_
          refine GC.ret ?_
          refine GE.seq_ret ?_
          -- returns, path Ffft
          refine GE.ret_tmp (L' := L) (.inl rfl) rfl rfl Wsb ?_
          exact ⟨by simp, rfl⟩
        · -- Ffff
          refine GL.want rfl rfl ?_
          refine GL.v Wmv ?_
          refine GL.want rfl rfl ?_
          refine GL.v Wfa ?_
          refine GL.want rfl rfl ?_
          refine GL.v Wlb ?_
          refine GL.want rfl rfl ?_
          refine GL.v Wln ?_
          refine GL.want rfl rfl ?_
          refine GL.v Wgq ?_
          refine GL.v Wpf ?_
          refine GL.nil ?_
          refine GE.seq ?_
          refine GC.ifs (fun h5 => ?_) (fun h5 => ?_)
          · -- FfffT
            refine GC.seq ?_
            refine GC.region ?_
            refine GL.v Wmv ?_
            refine GL.v Wlba ?_
            refine GL.v Wmv ?_
            refine GL.call rfl rfl (sUsersOf_spec _ _ _ _ _ (by first | assumption | exact RdG.imp (by assumption) Wim | exact RdG.of_pick Wpk Wpk) (by assumption) _) ?_
            rintro _ _ ⟨B43, d43, rfl, rfl⟩
            refine GL.callF rfl rfl (equalInts_spec _ _ _ _ _ Wrd _ _ _ Wrd Wom) ?_
            refine GL.v Wag ?_
            refine GL.nil ?_
            refine GE.seq ?_
            refine GC.ret ?_
            refine GE.seq_ret ?_
            -- returns, path FfffT
            refine GE.ret_tmp (L' := L) (.inl rfl) rfl rfl Wsb ?_
            exact ⟨by simp, rfl⟩
          · -- FfffF
            refine GC.skip ?_
            refine GE.seq ?_
            refine GC.seq ?_
            refine GC.seq ?_
            refine GC.region ?_
            refine GL.v Wag ?_
            refine GL.nil ?_
            refine GE.seq ?_
            refine GC.block ?_
            -- loop 1: carried slots [6]
            refine GC.loopK (α := Nat) (fun i => i ≤ ms12.length) (fun i => [(6, .int .i64 i)]) [(3, _), (4, _), (5, _)] (fun i => row intE B17 d17 (usersL (gr ms12) n12) :: blk g3 25 [.slice D12 ms12.length e12] :: row nodeE D12 e12 ms12 :: partsA ms12 :: L) (fun i => ms12.length - i) 0 Wkp Wsb (Nat.zero_le _) ?_
            rintro i hi
            refine GC.seq ?_
            refine GC.seq ?_
            refine GC.region ?_
            refine GL.v Wmv ?_
            refine GL.v Wfa ?_
            refine GL.v Wlb ?_
            refine GL.v Wln ?_
            refine GL.v Wls ?_
            refine GL.nil ?_
            refine GE.seq ?_
            refine GC.ifs (fun h6 => ?_) (fun h6 => ?_)
            · -- FfffFT
              have hil : i < ms12.length := by omega
              have hP : Rd w0 (row intE B17 d17 (usersL (gr ms12) n12) :: blk g3 25 [.slice D12 ms12.length e12] :: row nodeE D12 e12 ms12 :: partsA ms12 :: L) partE ms12[i].a ms12[i].c ms12[i].parts := Rd.of_parts Wpk (List.getElem_mem hil)
              have hmv := mayV_length ms12[i].parts
              have hum := users_may h3 (n := n12) (by omega) (by simp; omega) (i := i) (by simpa using hil)
              rw [gr_get] at hum
              refine GC.skip ?_
              refine GE.seq ?_
              refine GC.seq ?_
              refine GC.block ?_
              refine GC.seq ?_
              refine GC.region_any #[false, false, true, false, false, false, false, false, false, true, false, true, false] mixed ?_
              refine GA.take 0 #[false, true, false, true, true, true, true, true, true, false, true, false, false] rfl (by exact Ev.move rfl) rfl rfl (by kernel_rfl) rfl (by kernel_rfl) (by kernel_rfl) (fun _ _ _ h => h) ?_
              refine GA.take 1 #[true, false, false, true, true, true, true, true, true, false, true, false, false] rfl (by exact Ev.move rfl) rfl rfl (by kernel_rfl) rfl (by kernel_rfl) (by kernel_rfl) (fun _ _ _ h => h) ?_
              refine GA.take 3 #[true, true, true, false, false, true, false, false, false, false, true, false, false] rfl (by exact Ev.fieldAddr rfl) rfl rfl (by kernel_rfl) rfl (by kernel_rfl) (by kernel_rfl) (fun _ _ _ h => h) ?_
              refine GA.read 4 #[true, true, true, true, false, true, false, false, false, false, true, false, false] rfl (by exact Wlb) rfl rfl (by kernel_rfl) rfl (by kernel_rfl) (by kernel_rfl) (fun _ _ _ h => h) ?_
              refine GA.take 5 #[true, true, true, true, true, false, false, false, false, false, true, false, false] rfl (by exact Ev.move rfl) rfl rfl (by kernel_rfl) rfl (by kernel_rfl) (by kernel_rfl) (fun _ _ _ h => h) ?_
              refine GA.read 6 #[true, true, true, true, true, true, false, false, false, false, true, false, false] rfl (by exact Wix) rfl rfl (by kernel_rfl) rfl (by kernel_rfl) (by kernel_rfl) (fun _ _ _ h => h) ?_
              refine GA.take 7 #[true, true, true, true, true, true, true, false, false, false, true, false, false] rfl (by exact Ev.fieldAddr rfl) rfl rfl (by kernel_rfl) rfl (by kernel_rfl) (by kernel_rfl) (fun _ _ _ h => h) ?_
              refine GA.read 8 #[true, true, true, true, true, true, true, true, false, false, true, false, false] rfl (by exact Wlef1) rfl rfl (by kernel_rfl) rfl (by kernel_rfl) (by kernel_rfl) (fun _ _ _ h => h) ?_
              refine GA.take 10 #[true, true, true, true, true, true, true, true, true, true, false, false, false] rfl (by exact Ev.move rfl) rfl rfl (by kernel_rfl) rfl (by kernel_rfl) (by kernel_rfl) (fun _ _ _ h => h) ?_
              refine GA.branch (rs := [2]) (JOk.live (by exact Wlef1) (JOk.live (by exact Wix) (JOk.live (by exact Wlb) JOk.nil))) (by kernel_rfl) (by simp) ?_
              refine GAs.cons rfl ?_ ?_
              · -- FfffFT op 2
                refine GL.callF rfl rfl (isIn_spec _ _ _ _ _ Wrd _ Wom) ?_
                refine GL.nil ?_
                refine GE.any ?_
                refine GA.branch (rs := [9]) (JOk.live (by exact Wlef1) (JOk.live (by exact Wix) (JOk.live (by exact Wlb) JOk.nil))) (by kernel_rfl) (by simp) ?_
                refine GAs.cons rfl ?_ ?_
                · -- FfffFT op 9
                  refine GL.call rfl rfl (iMayRead_spec _ _ _ _ _ Wrd) ?_
                  rintro _ _ ⟨B61, d61, rfl, rfl⟩
                  refine GL.nil ?_
                  refine GE.any ?_
                  refine GA.branch (rs := [11]) (JOk.dead (by kernel_rfl) (JOk.dead (by kernel_rfl) (JOk.dead (by kernel_rfl) JOk.nil))) (by kernel_rfl) (by simp) ?_
                  refine GAs.cons rfl ?_ ?_
                  · -- FfffFT op 11
                    refine GL.callF rfl rfl (isIn_spec _ _ _ _ _ Wrd _ Wom) ?_
                    refine GL.nil ?_
                    refine GE.any ?_
                    refine GA.take 12 #[true, true, true, true, true, true, true, true, true, true, true, true, false] rfl (by exact Ev.neq_bool rfl rfl) rfl rfl (by kernel_rfl) rfl (by kernel_rfl) (by kernel_rfl) (fun _ _ _ h => h) ?_
                    refine GA.done (JOk.dead (by kernel_rfl) (JOk.dead (by kernel_rfl) (JOk.dead (by kernel_rfl) JOk.nil))) (by kernel_rfl) ?_
                    refine GE.seq ?_
                    refine GC.ifs (fun h7 => ?_) (fun h7 => ?_)
                    · -- FfffFTT
                      exact absurd hum h7
                    · -- FfffFTF
                      refine GC.skip ?_
                      refine GE.block ?_
                      refine GE.seq ?_
                      refine GC.region ?_
                      refine GL.v Wmv ?_
                      refine GL.v Wad ?_
                      refine GL.v Wag ?_
                      refine GL.nil ?_
                      -- round of loop 1, path FfffFTF
                      refine GE.round (i + 1) (by omega) (by omega) Wkp Wsb
                  exact GAs.nil
                exact GAs.nil
              exact GAs.nil
            · -- FfffFF
              refine GC.exit ?_
              refine GE.seq_exit ?_
              refine GE.loop_exit ?_
              refine GE.block_exit ?_
              refine GE.seq ?_
              refine GC.seq ?_
              refine GC.region ?_
              refine GL.v Wmv ?_
              refine GL.callF rfl rfl (ascends_spec _ _ _ _ _ Wrd Wom (by first | assumption | exact asc_mayL _)) ?_
              refine GL.v Wmv ?_
              refine GL.gs (fun h7 => ?_) (fun h7 => ?_)
              · -- FfffFFt
                refine GL.want rfl rfl ?_
                refine GL.v Wfa ?_
                refine GL.want rfl rfl ?_
                refine GL.v Wlb ?_
                refine GL.want rfl rfl ?_
                refine GL.v Wmv ?_
                refine GL.want rfl rfl ?_
                refine GL.v Wix ?_
                refine GL.want rfl rfl ?_
                refine GL.v Wfa ?_
                refine GL.want rfl rfl ?_
                refine GL.v Wlef ?_
                refine GL.want rfl rfl ?_
                refine GL.v Wnq ?_
                refine GL.want rfl rfl ?_
                refine GL.v Wmv ?_
                refine GL.gs (fun h8 => ?_) (fun h8 => ?_)
                · -- FfffFFtt
                  refine GL.unwant rfl rfl rfl rfl ?_
                  refine GL.unwant rfl rfl rfl rfl ?_
                  refine GL.unwant rfl rfl rfl rfl ?_
                  refine GL.want rfl rfl ?_
                  refine GL.v Wpt ?_
                  refine GL.v Wpt ?_
                  refine GL.v Wag ?_
                  refine GL.nil ?_
                  refine GE.seq ?_
                  refine GC.ret ?_
                  -- returns, path FfffFFtt
                  refine GE.ret_tmp (L' := L) (.inl rfl) rfl rfl Wsb ?_
                  exact ⟨rfl, rfl⟩
                · -- FfffFFtf
                  refine GL.want rfl rfl ?_
                  refine GL.v Wmv ?_
                  refine GL.want rfl rfl ?_
                  refine GL.v Wln ?_
                  refine GL.want rfl rfl ?_
                  refine GL.v Weq ?_
                  refine GL.want rfl rfl ?_
                  refine GL.v Wpf ?_
                  refine GL.v Wpt ?_
                  refine GL.v Wag ?_
                  refine GL.nil ?_
                  refine GE.seq ?_
                  refine GC.ret ?_
                  -- returns, path FfffFFtf
                  refine GE.ret_tmp (L' := L) (.inl rfl) rfl rfl Wsb ?_
                  rw [users_effect h3 (by rw [kindAt_gr (by omega)]; exact h8)]
                  exact ⟨rfl, rfl⟩
              · -- FfffFFf
                cases h7
theorem fnUsersOf_calls {H : Type} {enc : TypeId × Value → H} {W : World} {base : Nat} {args : Array Value} {ds : List (DataW H)} {p : List MemPlace} (hval : ∀ (j : Nat) t v, Try.f4.params[j]? = some t → args[j]? = some v → Value.okWide Try.prog W .any base t v)
    (hA : DataW.TrodAll enc Try.prog W 0 (fun _ => true) true Try.f4.params.toList args.toList ds p) : Tr Try.prog 4 args W [] (fun v L' => v = .bool true ∧ L' = []) := by
  rw [Try.params4] at hA hval
  obtain ⟨v0, vs0, d0, ds0, p0, q0, hargs, rfl, rfl, h0, r0⟩ := trodAll_cons hA
  obtain ⟨rfl, rfl, rfl⟩ := trodAll_nil r0
  obtain rfl : args = #[v0] := by cases args; simp_all
  obtain ⟨A, c, bs, rfl, hR, hb⟩ := arg_sl (E := byteE) (st := 22) (by kernel_rfl) (opens_bytes W) (hval 0 _ v0 rfl rfl) h0
  exact FnUsersOf_spec W [] A c bs hR (fun x hx => wf_u8 (hb x hx))
theorem fnUsersOf_lifted (os : Os) (started : os.Started) (H : Type) (enc : TypeId × Value → H) :
    ReturnsInHanded {} Try.checked os 4 .any (Ytphapjfhcbledaa.Rows.fnUsersOfSpec.pre6 enc Try.prog Try.f4 Ytphapjfhcbledaa.Rows.fnUsersOfRow.domain false) (Ytphapjfhcbledaa.Rows.fnUsersOfSpec.post enc Try.prog Try.f4 false true false false) := by
  refine returnsInHanded_of_change (C := Try.checked) own started (by kernel_rfl) Try.func4
    (ChangeSpec.witness6 (enc := enc) (C := Try.checked) false ⟨#[], #[.slice none 0 0], []⟩ 8 (by kernel_rfl) (by kernel_rfl) (by kernel_rfl) (by kernel_rfl)) ?_
  intro W base args ds gs before hval0 hW hcnd _
  have hval : ∀ (j : Nat) t v, Try.f4.params[j]? = some t → args[j]? = some v → Value.okWide Try.prog W .any base t v := hval0
  have hW' := hW
  obtain ⟨p, q, hA0, _⟩ := hW
  have hA : DataW.TrodAll enc Try.prog W 0 (fun _ => true) true Try.f4.params.toList args.toList ds p := hA0
  have hlen : ds.length = Try.f4.params.toList.length := trodAll_len hA
  rw [Try.params4] at hlen
  refine ((fnUsersOf_calls hval hA).go W (St.start W)).mono ?_
  rintro e W' ⟨v, L', ⟨rfl, rfl⟩, rfl, hs⟩
  exact ⟨_, rfl, law_post kids full (by rw [Try.params4]; decide) hW' rfl (fun hg => by subst hg; match ds, hlen with | [_], _ => exact bool_res) (fun hg => by subst hg; match ds, hlen with | [_], _ => rfl) (fun hg => by subst hg; match ds, hlen with | [_], _ => rfl) hs.below⟩
theorem fnUsersOf_over : Ytphapjfhcbledaa.Rows.fnUsersOfRow.holds Try.pinned (OpenSpec.ofChange Ytphapjfhcbledaa.Rows.fnUsersOfSpec) :=
  OpenClaim.holds_of_wide 4 Try.f4 rfl rfl rfl rfl rfl rfl rfl ⟨rfl, rfl, rfl, rfl, rfl⟩ rfl rfl rfl rfl rfl (by kernel_rfl) Try.func4 (by kernel_rfl)
    (of_decide_eq_true (by kernel_rfl)) (by unfold Func.isWrapper; first | (rw [if_pos (by decide +kernel)]; kernel_rfl) | (rw [if_neg (by decide +kernel)]; exact ⟨rfl, rfl⟩))
    (fun os started H enc _ => fnUsersOf_lifted os started H enc)
end SG
namespace Go.Proofs.Ytphapjfhcbledaa
theorem fnUsersOf_proved : Rows.FnUsersOfSaid := SG.fnUsersOf_over
end Go.Proofs.Ytphapjfhcbledaa
#print axioms Go.Proofs.Ytphapjfhcbledaa.fnUsersOf_proved
