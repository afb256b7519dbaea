/- The law FnNeedOf holds for every input. -/
import Derived.Test.YtphapjfhcbledaaD13
import Derived.Test.YtphapjfhcbledaaD15
import Derived.Test.YtphapjfhcbledaaD19
import Derived.Test.YtphapjfhcbledaaD20
import Derived.Test.YtphapjfhcbledaaD21
import Derived.Test.YtphapjfhcbledaaD22
import Derived.Test.YtphapjfhcbledaaPlain11
import Derived.Test.YtphapjfhcbledaaRows
namespace SG
open Go Go.RowKit Go.Proofs Go.Proofs.Ytphapjfhcbledaa Go.ChangeShapes Go.WideShapes Go.Deep
set_option linter.unusedVariables false
set_option linter.unusedSimpArgs false
set_option maxRecDepth 100000
theorem FnNeedOf_spec (w0 : World) (L : List Asn) (A : Option Addr) (c : Nat) (bs : List Int) (hR : Rd w0 [] byteE A c bs) (hb : ∀ x ∈ bs, 0 ≤ x ∧ x ≤ 255) :
    Tr Try.prog 5 #[.slice A bs.length c] w0 L (fun v L' => v = .bool true ∧ L' = L) := by
  refine Tr.rd_cap (hR.imp Imp.nil) fun hc1 hc2 => ?_
  refine Tr.enter (args := [.slice A bs.length c]) Try.func5 Try.ntmps5 rfl rfl ?_
  refine GC.seq ?_
  refine GC.region ?_
  refine GL.v Wag ?_
  refine GL.nil ?_
  refine GE.seq ?_
  refine GC.seq ?_
  refine GC.seq ?_
  refine GC.region ?_
  refine GL.v Wmv ?_
  refine GL.v Wln ?_
  refine GL.v Wgt ?_
  refine GL.nil ?_
  refine GE.seq ?_
  refine GC.ifs (fun h1 => ?_) (fun h1 => ?_)
  · -- T
    refine GC.seq ?_
    refine GC.region ?_
    refine GL.v Wag ?_
    refine GL.nil ?_
    refine GE.seq ?_
    refine GC.ret ?_
    refine GE.seq_ret ?_
    -- returns, path T
    refine GE.ret_tmp (L' := L) (.inl rfl) rfl rfl Wsb ?_
    exact ⟨rfl, rfl⟩
  · -- F
    refine GC.skip ?_
    refine GE.seq ?_
    refine GC.seq ?_
    refine GC.region ?_
    refine GL.v Wmv ?_
    refine GL.call rfl rfl (DrawNeedOf_spec _ _ _ _ _ (by assumption) (by assumption) (by omega) (by omega)) ?_
    rintro _ _ ⟨D14, e14, ms14, n14, rfl, ms14a, ms14b, ms14c, n14a, n14b, rfl⟩
    have hS14 := SizeG.small ms14b ms14c
    have hten := needOfL_ten (gr ms14) n14
    have hasc : Asc (needOfL (gr ms14) n14) := onlyL_asc _ _ _
    refine GL.v Wmv ?_
    refine GL.v Wxt ?_
    refine GL.v Wxt ?_
    refine GL.alloc rfl ?_; intro g3
    refine GL.store_varN rfl rfl rfl Wpk (by rfl) (by rfl) (by rfl) ?_
    refine GL.v Wag ?_
    refine GL.nil ?_
    refine GE.seq ?_
    refine GC.seq ?_
    refine GC.region ?_
    refine GL.v Wlba ?_
    refine GL.v Wmv ?_
    refine GL.call rfl rfl (iNeedOf_spec _ _ _ _ _ (by first | assumption | exact RdG.imp (by assumption) Wim | exact RdG.of_pick Wpk Wpk) (by first | omega | exact SizeG.le (by assumption)) _) ?_
    rintro _ _ ⟨B19, d19, rfl, rfl⟩
    refine GL.v Wag ?_
    refine GL.nil ?_
    refine GE.seq ?_
    refine GC.seq ?_
    refine GC.seq ?_
    refine GC.region ?_
    refine GL.v Wmv ?_
    refine GL.v Wlba ?_
    refine GL.v Wmv ?_
    refine GL.call rfl rfl (sNeedOf_spec _ _ _ _ _ (by first | assumption | exact RdG.imp (by assumption) Wim | exact RdG.of_pick Wpk Wpk) (by assumption) _) ?_
    rintro _ _ ⟨B23, d23, rfl, rfl⟩
    refine GL.callF rfl rfl (equalInts_spec _ _ _ _ _ Wrd _ _ _ Wrd Wom) ?_
    refine GL.v Wnt ?_
    refine GL.v Wmv ?_
    refine GL.gs (fun h2 => ?_) (fun h2 => ?_)
    · -- Ft
      exact absurd rfl h2
    · -- Ff
      refine GL.want rfl rfl ?_
      refine GL.v Wmv ?_
      refine GL.want rfl rfl ?_
      refine GL.v Wln ?_
      refine GL.want rfl rfl ?_
      refine GL.v Weq ?_
      refine GL.v Wpf ?_
      refine GL.nil ?_
      refine GE.seq ?_
      refine GC.ifs (fun h3 => ?_) (fun h3 => ?_)
      · -- FfT
        refine GC.seq ?_
        refine GC.region ?_
        refine GL.v Wmv ?_
        refine GL.v Wlba ?_
        refine GL.v Wmv ?_
        refine GL.call rfl rfl (sNeedOf_spec _ _ _ _ _ (by first | assumption | exact RdG.imp (by assumption) Wim | exact RdG.of_pick Wpk Wpk) (by assumption) _) ?_
        rintro _ _ ⟨B34, d34, rfl, rfl⟩
        refine GL.callF rfl rfl (equalInts_spec _ _ _ _ _ Wrd _ _ _ Wrd Wom) ?_
        refine GL.v Wag ?_
        refine GL.nil ?_
        refine GE.seq ?_
        refine GC.ret ?_
        refine GE.seq_ret ?_
        -- returns, path FfT
        refine GE.ret_tmp (L' := L) (.inl rfl) rfl rfl Wsb ?_
        exact ⟨by simp, rfl⟩
      · -- FfF
        have hs := onlyL_some (gs := gr ms14) (n := n14) (p := fun i => reachB (gr ms14) i n14.toNat) (fun e => h3 (by show (((onlyL (gr ms14) n14 (fun i => reachB (gr ms14) i n14.toNat)).length : Nat) : Int) = 0; rw [e]; rfl))
        obtain ⟨hvg, hn0, hn1⟩ := hs
        have hn2 := hn1
        rw [gr_length] at hn2
        have hP : Rd w0 (row intE B19 d19 (needOfL (gr ms14) n14) :: blk g3 25 [.slice D14 ms14.length e14] :: row nodeE D14 e14 ms14 :: partsA ms14 :: L) partE ms14[n14.toNat].a ms14[n14.toNat].c ms14[n14.toNat].parts := Rd.of_parts Wpk (List.getElem_mem (by omega))
        have hmv := mayV_length ms14[n14.toNat].parts
        have hma : mayV ms14[n14.toNat].parts = mayAt (gr ms14) n14.toNat := by rw [← validG_may (validG_iff.1 hvg) (show n14.toNat < (gr ms14).length by omega), gr_get]; rfl
        refine GC.skip ?_
        refine GE.seq ?_
        refine GC.seq ?_
        refine GC.region ?_
        refine GL.v Wfa ?_
        refine GL.v Wlb ?_
        refine GL.v Wmv ?_
        refine GL.v Wix ?_
        refine GL.v Wfa ?_
        refine GL.v Wlef1 ?_
        refine GL.call rfl rfl (iMayRead_spec _ _ _ _ _ Wrd) ?_
        rintro _ _ ⟨B42, d42, rfl, rfl⟩
        refine GL.v Wag ?_
        refine GL.nil ?_
        refine GE.seq ?_
        refine GC.seq ?_
        refine GC.region ?_
        refine GL.v Wmv ?_
        refine GL.buildSlice rfl (by first | exact bsInt0 | exact bsInt1 _ | exact bsInt2 _ _ | exact bsInt3 _ _ _ | exact bsInt4 _ _ _ _ | exact bsInt5 _ _ _ _ _ | exact bsInt6 _ _ _ _ _ _ | exact bsInt7 _ _ _ _ _ _ _ | exact bsInt8 _ _ _ _ _ _ _ _ | exact bsInt9 _ _ _ _ _ _ _ _ _ | exact bsInt10 _ _ _ _ _ _ _ _ _ _ | exact bsPart0 | exact bsPart1 ⟨_, _, _, _, _⟩ | exact bsNode1 ⟨_, _, _, _⟩ | exact bsPtr3 _ _ _) rfl (by decide) rfl ?_; intro g44
        refine GL.v Wag ?_
        refine GL.nil ?_
        refine GE.seq ?_
        refine GC.seq ?_
        refine GC.seq ?_
        refine GC.region ?_
        refine GL.v Wag ?_
        refine GL.nil ?_
        refine GE.seq ?_
        refine GC.block ?_
        -- loop 1: carried slots [7, 8]
        refine GC.loopK (α := Nat × Option Addr × Nat) (fun x => x.1 ≤ (mayV ms14[n14.toNat].parts).length) (fun x => [(7, .slice x.2.1 (allL (gr ms14) n14 (mayV ms14[n14.toNat].parts) x.1).length x.2.2), (8, .int .i64 x.1)]) [(3, _), (4, _), (5, _), (6, _)] (fun x => row intE x.2.1 x.2.2 (allL (gr ms14) n14 (mayV ms14[n14.toNat].parts) x.1) :: row intE B42 d42 (mayV ms14[n14.toNat].parts) :: row intE B19 d19 (needOfL (gr ms14) n14) :: blk g3 25 [.slice D14 ms14.length e14] :: row nodeE D14 e14 ms14 :: partsA ms14 :: L) (fun x => (mayV ms14[n14.toNat].parts).length - x.1) (0, some ⟨g44, 0, none⟩, 1) Wkp Wsb (Nat.zero_le _) ?_
        rintro ⟨t, Ba, da⟩ ht
        dsimp only at ht ⊢
        have hal := allL_length (gr ms14) n14 (mayV ms14[n14.toNat].parts) t
        refine GC.seq ?_
        refine GC.seq ?_
        refine GC.region ?_
        refine GL.v Wmv ?_
        refine GL.v Wmv ?_
        refine GL.v Wln ?_
        refine GL.v Wls ?_
        refine GL.nil ?_
        refine GE.seq ?_
        refine GC.ifs (fun h4 => ?_) (fun h4 => ?_)
        · -- FfFT
          have htl : t < (mayV ms14[n14.toNat].parts).length := by omega
          have hnk := needOfL_ten (gr ms14) (mayV ms14[n14.toNat].parts)[t]
          refine GC.skip ?_
          refine GE.seq ?_
          refine GC.seq ?_
          refine GC.block ?_
          refine GC.region_any #[false, false, false, false, false, false, true, true, false] mixed ?_
          refine GA.take 0 #[false, true, true, true, true, true, true, false, false] rfl (by exact Ev.move rfl) rfl rfl (by kernel_rfl) rfl (by kernel_rfl) (by kernel_rfl) (fun _ _ _ h => h) ?_
          refine GA.read 1 #[true, false, true, true, true, true, false, false, false] rfl (by exact Wlba) rfl rfl (by kernel_rfl) rfl (by kernel_rfl) (by kernel_rfl) (fun _ _ _ h => h) ?_
          refine GA.take 2 #[true, true, false, true, false, false, false, false, false] rfl (by exact Ev.move rfl) rfl rfl (by kernel_rfl) rfl (by kernel_rfl) (by kernel_rfl) (fun _ _ _ h => h) ?_
          refine GA.take 3 #[true, true, true, false, false, false, false, false, false] rfl (by exact Ev.move rfl) rfl rfl (by kernel_rfl) rfl (by kernel_rfl) (by kernel_rfl) (fun _ _ _ h => h) ?_
          refine GA.read 4 #[true, true, true, true, false, false, false, false, false] rfl (by exact Wix) rfl rfl (by kernel_rfl) rfl (by kernel_rfl) (by kernel_rfl) (fun _ _ _ h => h) ?_
          refine GA.read 5 #[true, true, true, true, true, false, false, false, false] rfl (by exact Wle) rfl rfl (by kernel_rfl) rfl (by kernel_rfl) (by kernel_rfl) (fun _ _ _ h => h) ?_
          refine GA.branch (rs := [6]) (JOk.live (by exact Wle) (JOk.live (by exact Wix) (JOk.live (by exact Wlba) JOk.nil))) (by kernel_rfl) (by simp) ?_
          refine GAs.cons rfl ?_ ?_
          · -- FfFT op 6
            refine GL.call rfl rfl (iNeedOf_spec _ _ _ _ _ (by first | assumption | exact RdG.imp (by assumption) Wim | exact RdG.of_pick Wpk Wpk) (by first | omega | exact SizeG.le (by assumption)) _) ?_
            rintro _ _ ⟨B57, d57, rfl, rfl⟩
            refine GL.nil ?_
            refine GE.any ?_
            refine GA.branch (rs := [7]) (JOk.dead (by kernel_rfl) (JOk.dead (by kernel_rfl) (JOk.dead (by kernel_rfl) JOk.nil))) (by kernel_rfl) (by simp) ?_
            refine GAs.cons rfl ?_ ?_
            · -- FfFT op 7
              refine GL.call rfl rfl (ljoin_spec _ _ _ _ _ Wrd _ _ _ Wrd Wom Wom) ?_
              rintro _ _ ⟨B58, d58, rfl, rfl⟩
              refine GL.nil ?_
              refine GE.any ?_
              refine GA.take 8 #[true, true, true, true, true, true, true, true, false] rfl (by exact Ev.assign rfl) rfl rfl (by kernel_rfl) rfl (by kernel_rfl) (by kernel_rfl) (fun _ _ _ h => h) ?_
              refine GA.done (JOk.dead (by kernel_rfl) (JOk.dead (by kernel_rfl) (JOk.dead (by kernel_rfl) JOk.nil))) (by kernel_rfl) ?_
              refine GE.block ?_
              refine GE.seq ?_
              refine GC.region ?_
              refine GL.v Wmv ?_
              refine GL.v Wad ?_
              refine GL.v Wag ?_
              refine GL.nil ?_
              -- round of loop 1, path FfFT
              rw [allL_succ _ _ _ htl]
              refine GE.round (t + 1, _, _) (by dsimp only; omega) (by dsimp only; omega) Wkp Wsb
            exact GAs.nil
          exact GAs.nil
        · -- FfFF
          have hte : t = (mayV ms14[n14.toNat].parts).length := by omega
          have han : ∀ x, x ∈ allL (gr ms14) n14 (mayV ms14[n14.toNat].parts) t ↔ x ∈ needOfL (gr ms14) n14 := by
            rw [hte, hma]; exact all_need hvg hn0 hn1
          have hw1 : ∀ x ∈ allL (gr ms14) n14 (mayV ms14[n14.toNat].parts) t, x ∈ needOfL (gr ms14) n14 := fun x hx => (han x).1 hx
          have hw2 : ∀ x ∈ needOfL (gr ms14) n14, x ∈ allL (gr ms14) n14 (mayV ms14[n14.toNat].parts) t := fun x hx => (han x).2 hx
          refine GC.exit ?_
          refine GE.seq_exit ?_
          refine GE.loop_exit ?_
          refine GE.block_exit ?_
          refine GE.seq ?_
          refine GC.seq ?_
          refine GC.region ?_
          refine GL.v Wmv ?_
          refine GL.callF rfl rfl (ascends_spec _ _ _ _ _ Wrd Wom (by first | assumption | exact asc_mayL _)) ?_
          refine GL.v Wmv ?_
          refine GL.gs (fun h5 => ?_) (fun h5 => ?_)
          · -- FfFFt
            refine GL.want rfl rfl ?_
            refine GL.v Wmv ?_
            refine GL.want rfl rfl ?_
            refine GL.v Wmv ?_
            refine GL.want rfl rfl ?_
            refine GL.callF rfl rfl (within_spec _ _ _ _ _ Wrd _ _ _ Wrd Wom Wom (by assumption)) ?_
            refine GL.v Wpt ?_
            refine GL.v Wmv ?_
            refine GL.gs (fun h6 => ?_) (fun h6 => ?_)
            · -- FfFFtt
              refine GL.want rfl rfl ?_
              refine GL.v Wmv ?_
              refine GL.want rfl rfl ?_
              refine GL.v Wmv ?_
              refine GL.want rfl rfl ?_
              refine GL.callF rfl rfl (within_spec _ _ _ _ _ Wrd _ _ _ Wrd Wom Wom (by assumption)) ?_
              refine GL.v Wpt ?_
              refine GL.v Wmv ?_
              refine GL.gs (fun h7 => ?_) (fun h7 => ?_)
              · -- FfFFttt
                refine GL.want rfl rfl ?_
                refine GL.v Wmv ?_
                refine GL.want rfl rfl ?_
                refine GL.v Wmv ?_
                refine GL.want rfl rfl ?_
                refine GL.v Wln ?_
                refine GL.want rfl rfl ?_
                refine GL.v Wsu ?_
                refine GL.want rfl rfl ?_
                refine GL.v Wix ?_
                refine GL.want rfl rfl ?_
                refine GL.v Wle ?_
                refine GL.want rfl rfl ?_
                refine GL.v Wmv ?_
                refine GL.want rfl rfl ?_
                refine GL.v Weq ?_
                refine GL.v Wpt ?_
                refine GL.v Wag ?_
                refine GL.nil ?_
                refine GE.seq ?_
                refine GC.ret ?_
                -- returns, path FfFFttt
                refine GE.ret_tmp (L' := L) (.inl rfl) rfl rfl Wsb ?_
                exact ⟨by rw [decide_eq_true (need_last_at (by omega) _)], rfl⟩
              · -- FfFFttf
                cases h7
            · -- FfFFtf
              cases h6
          · -- FfFFf
            cases h5
theorem fnNeedOf_calls {H : Type} {enc : TypeId × Value → H} {W : World} {base : Nat} {args : Array Value} {ds : List (DataW H)} {p : List MemPlace} (hval : ∀ (j : Nat) t v, Try.f5.params[j]? = some t → args[j]? = some v → Value.okWide Try.prog W .any base t v)
    (hA : DataW.TrodAll enc Try.prog W 0 (fun _ => true) true Try.f5.params.toList args.toList ds p) : Tr Try.prog 5 args W [] (fun v L' => v = .bool true ∧ L' = []) := by
  rw [Try.params5] at hA hval
  obtain ⟨v0, vs0, d0, ds0, p0, q0, hargs, rfl, rfl, h0, r0⟩ := trodAll_cons hA
  obtain ⟨rfl, rfl, rfl⟩ := trodAll_nil r0
  obtain rfl : args = #[v0] := by cases args; simp_all
  obtain ⟨A, c, bs, rfl, hR, hb⟩ := arg_sl (E := byteE) (st := 22) (by kernel_rfl) (opens_bytes W) (hval 0 _ v0 rfl rfl) h0
  exact FnNeedOf_spec W [] A c bs hR (fun x hx => wf_u8 (hb x hx))
theorem fnNeedOf_lifted (os : Os) (started : os.Started) (H : Type) (enc : TypeId × Value → H) :
    ReturnsInHanded {} Try.checked os 5 .any (Ytphapjfhcbledaa.Rows.fnNeedOfSpec.pre6 enc Try.prog Try.f5 Ytphapjfhcbledaa.Rows.fnNeedOfRow.domain false) (Ytphapjfhcbledaa.Rows.fnNeedOfSpec.post enc Try.prog Try.f5 false true false false) := by
  refine returnsInHanded_of_change (C := Try.checked) own started (by kernel_rfl) Try.func5
    (ChangeSpec.witness6 (enc := enc) (C := Try.checked) false ⟨#[], #[.slice none 0 0], []⟩ 8 (by kernel_rfl) (by kernel_rfl) (by kernel_rfl) (by kernel_rfl)) ?_
  intro W base args ds gs before hval0 hW hcnd _
  have hval : ∀ (j : Nat) t v, Try.f5.params[j]? = some t → args[j]? = some v → Value.okWide Try.prog W .any base t v := hval0
  have hW' := hW
  obtain ⟨p, q, hA0, _⟩ := hW
  have hA : DataW.TrodAll enc Try.prog W 0 (fun _ => true) true Try.f5.params.toList args.toList ds p := hA0
  have hlen : ds.length = Try.f5.params.toList.length := trodAll_len hA
  rw [Try.params5] at hlen
  refine ((fnNeedOf_calls hval hA).go W (St.start W)).mono ?_
  rintro e W' ⟨v, L', ⟨rfl, rfl⟩, rfl, hs⟩
  exact ⟨_, rfl, law_post kids full (by rw [Try.params5]; decide) hW' rfl (fun hg => by subst hg; match ds, hlen with | [_], _ => exact bool_res) (fun hg => by subst hg; match ds, hlen with | [_], _ => rfl) (fun hg => by subst hg; match ds, hlen with | [_], _ => rfl) hs.below⟩
theorem fnNeedOf_over : Ytphapjfhcbledaa.Rows.fnNeedOfRow.holds Try.pinned (OpenSpec.ofChange Ytphapjfhcbledaa.Rows.fnNeedOfSpec) :=
  OpenClaim.holds_of_wide 5 Try.f5 rfl rfl rfl rfl rfl rfl rfl ⟨rfl, rfl, rfl, rfl, rfl⟩ rfl rfl rfl rfl rfl (by kernel_rfl) Try.func5 (by kernel_rfl)
    (of_decide_eq_true (by kernel_rfl)) (by unfold Func.isWrapper; first | (rw [if_pos (by decide +kernel)]; kernel_rfl) | (rw [if_neg (by decide +kernel)]; exact ⟨rfl, rfl⟩))
    (fun os started H enc _ => fnNeedOf_lifted os started H enc)
end SG
namespace Go.Proofs.Ytphapjfhcbledaa
theorem fnNeedOf_proved : Rows.FnNeedOfSaid := SG.fnNeedOf_over
end Go.Proofs.Ytphapjfhcbledaa
#print axioms Go.Proofs.Ytphapjfhcbledaa.fnNeedOf_proved
