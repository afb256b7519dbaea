/- The law FnCommitCells holds for every input. -/
import Derived.Test.YtpkooglnapjcnaaD13
import Derived.Test.YtpkooglnapjcnaaD30
import Derived.Test.YtpkooglnapjcnaaD31
import Derived.Test.YtpkooglnapjcnaaRows
namespace SG
open Go Go.RowKit Go.Proofs Go.Proofs.Ytpkooglnapjcnaa Go.ChangeShapes Go.WideShapes Go.Deep
set_option linter.unusedVariables false
set_option linter.unusedSimpArgs false
set_option maxRecDepth 100000
theorem FnCommitCells_spec (w0 : World) (L : List Asn) (A : Option Addr) (c : Nat) (bs : List Int) (hR : Rd w0 [] byteE A c bs) (hb : ∀ x ∈ bs, 0 ≤ x ∧ x ≤ 255) :
    Tr Try.prog 13 #[.slice A bs.length c] w0 L (fun v L' => v = .bool true ∧ L' = L) := by
  refine Tr.rd_cap (hR.imp Imp.nil) fun hc1 hc2 => ?_
  refine Tr.enter (args := [.slice A bs.length c]) Try.func13 Try.ntmps13 rfl rfl ?_
  refine GC.seq ?_
  refine GC.region ?_
  refine GL.v Wag ?_
  refine GL.nil ?_
  refine GE.seq ?_
  refine GC.seq ?_
  refine GC.seq ?_
  refine GC.region ?_
  refine GL.v Wmv ?_
  refine GL.v Wln ?_
  refine GL.v Wgt ?_
  refine GL.nil ?_
  refine GE.seq ?_
  refine GC.ifs (fun h1 => ?_) (fun h1 => ?_)
  · -- T
    refine GC.seq ?_
    refine GC.region ?_
    refine GL.v Wag ?_
    refine GL.nil ?_
    refine GE.seq ?_
    refine GC.ret ?_
    refine GE.seq_ret ?_
    -- returns, path T
    refine GE.ret_tmp (L' := L) (.inl rfl) rfl rfl Wsb ?_
    exact ⟨rfl, rfl⟩
  · -- F
    refine GC.skip ?_
    refine GE.seq ?_
    refine GC.seq ?_
    refine GC.region ?_
    refine GL.v Wmv ?_
    refine GL.call rfl rfl (DrawCommitCells_spec _ _ _ _ _ (by assumption) (by assumption) (by omega) (by omega)) ?_
    rintro _ _ ⟨D21, e21, ms21, B21, d21, ls21, a21, E21, f21, xs21, rfl, ms21a, ms21b, ms21c, ls21a, ls21b, ls21c, a21a, a21b, xs21a, rfl⟩
    have hS21 := SizeG.small ms21b ms21c
    have hZ21 := SizeLs.small ls21b (fun l hl => Nat.le_trans (ls21c l hl) (by decide))
    refine GL.v Wmv ?_
    refine GL.v Wxt ?_
    refine GL.v Wxt ?_
    refine GL.v Wxt ?_
    refine GL.alloc rfl ?_; intro g3
    refine GL.alloc rfl ?_; intro g4
    refine GL.store_varN rfl rfl rfl Wpk (by rfl) (by rfl) (by rfl) ?_
    refine GL.store_varN rfl rfl rfl Wpk (by rfl) (by rfl) (by rfl) ?_
    refine GL.v Wag ?_
    refine GL.nil ?_
    refine GE.seq ?_
    refine GC.seq ?_
    refine GC.region ?_
    refine GL.v Wlba ?_
    refine GL.v Wlba ?_
    refine GL.v Wmv ?_
    refine GL.call rfl rfl (iCommitCells_spec _ _ _ _ _ (by first | assumption | exact RdG.imp (by assumption) Wim | exact RdG.of_pick Wpk Wpk) _ _ _ (by first | assumption | exact RdLs.imp (by assumption) Wim | exact RdLs.of_pick Wpk Wpk) _ _ _ _ Wrd (by first | omega | exact SizeG.le (by assumption)) (by assumption) Wom) ?_
    rintro _ _ ⟨B29, d29, ls29, hli29, rfl, rfl⟩
    have hZ29 := SizeLs.com hli29 hZ21 (by omega)
    refine GL.v Wmv ?_
    refine GL.v Wxt ?_
    refine GL.v Wxt ?_
    refine GL.alloc rfl ?_; intro g6
    refine GL.store_varN rfl rfl rfl Wpk (by rfl) (by rfl) (by rfl) ?_
    refine GL.v Wag ?_
    refine GL.nil ?_
    refine GE.seq ?_
    refine GC.seq ?_
    refine GC.region ?_
    refine GL.v Wlba ?_
    refine GL.v Wlba ?_
    refine GL.v Wmv ?_
    refine GL.call rfl rfl (sCommitCells_spec _ _ _ _ _ (by first | assumption | exact RdG.imp (by assumption) Wim | exact RdG.of_pick Wpk Wpk) _ _ _ (by first | assumption | exact RdLs.imp (by assumption) Wim | exact RdLs.of_pick Wpk Wpk) _ _ _ _ Wrd (by assumption) (by assumption) Wom) ?_
    rintro _ _ ⟨B36, d36, ls36, hli36, rfl, rfl⟩
    have hZ36 := SizeLs.com hli36 hZ21 (by omega)
    refine GL.v Wmv ?_
    refine GL.v Wxt ?_
    refine GL.v Wxt ?_
    refine GL.alloc rfl ?_; intro g8
    refine GL.store_varN rfl rfl rfl Wpk (by rfl) (by rfl) (by rfl) ?_
    refine GL.v Wag ?_
    refine GL.nil ?_
    refine GE.seq ?_
    refine GC.seq ?_
    refine GC.seq ?_
    refine GC.region ?_
    refine GL.v Wlba ?_
    refine GL.v Wlba ?_
    refine GL.callF rfl rfl (equalHistory_spec _ _ _ _ _ (by first | assumption | exact RdLs.imp (by assumption) Wim | exact RdLs.of_pick Wpk Wpk) _ _ _ _ (by first | assumption | exact RdLs.imp (by assumption) Wim | exact RdLs.of_pick Wpk Wpk) _ (by assumption)) ?_
    refine GL.v Wnt ?_
    refine GL.v Wmv ?_
    refine GL.gs (fun h2 => ?_) (fun h2 => ?_)
    · -- Ft
      exact absurd ⟨hli29.trans hli36.symm, rfl⟩ h2
    · -- Ff
      refine GL.want rfl rfl ?_
      refine GL.v Wmv ?_
      refine GL.want rfl rfl ?_
      refine GL.v Wmv ?_
      refine GL.want rfl rfl ?_
      refine GL.v (by exact EvP.r (Ev.neq_bool rfl rfl)) ?_
      refine GL.v Wpf ?_
      refine GL.v Wmv ?_
      refine GL.gs (fun h3 => ?_) (fun h3 => ?_)
      · -- Fft
        exact absurd rfl h3
      · -- Fff
        refine GL.want rfl rfl ?_
        refine GL.v Wmv ?_
        refine GL.want rfl rfl ?_
        refine GL.v Wnt ?_
        refine GL.v Wpf ?_
        refine GL.nil ?_
        refine GE.seq ?_
        refine GC.ifs (fun h4 => ?_) (fun h4 => ?_)
        · -- FffT
          refine GC.seq ?_
          refine GC.region ?_
          refine GL.v Wlba ?_
          refine GL.v Wlba ?_
          refine GL.callF rfl rfl (equalHistory_spec _ _ _ _ _ (by first | assumption | exact RdLs.imp (by assumption) Wim | exact RdLs.of_pick Wpk Wpk) _ _ _ _ (by first | assumption | exact RdLs.imp (by assumption) Wim | exact RdLs.of_pick Wpk Wpk) _ (by assumption)) ?_
          refine GL.v Wmv ?_
          refine GL.gs (fun h5 => ?_) (fun h5 => ?_)
          · -- FffTt
            refine GL.want rfl rfl ?_
            refine GL.v Wmv ?_
            refine GL.want rfl rfl ?_
            refine GL.v Wmv ?_
            refine GL.want rfl rfl ?_
            refine GL.v (by exact EvP.r (Ev.eql_bool rfl rfl)) ?_
            refine GL.v Wpt ?_
            refine GL.v Wag ?_
            refine GL.nil ?_
            refine GE.seq ?_
            refine GC.ret ?_
            refine GE.seq_ret ?_
            -- returns, path FffTt
            refine GE.ret_tmp (L' := L) (.inl rfl) rfl rfl Wsb ?_
            exact ⟨by simp, rfl⟩
          · -- FffTf
            exact absurd ⟨hli29.trans hli36.symm, rfl⟩ h5
        · -- FffF
          obtain ⟨hi1, hi2, hi3⟩ := comB_iff.1 h4
          have hh := hisB_iff.1 hi1
          rw [li_length] at hh
          obtain ⟨hch, hcl⟩ := com_his h4
          obtain ⟨hlast, hprev⟩ := com_last h4
          rw [← hli29] at hch hcl hlast hprev
          rw [li_length] at hcl
          rw [(comL_yes h4).2]
          have hm1 : movB (gr ms21) (li ls29) (a21 + 1) (-1) = true := by rw [movB, hch, li_length, hcl, inB_iff.2 ⟨by omega, by omega⟩]; rfl
          have hm2 : movB (gr ms21) (li ls29) (a21 + 1) 1 = false := by rw [movB, li_length, hcl, show inB 1 (-(a21 + 1)) (((a21.toNat + 2 : Nat) : Int) - 1 - (a21 + 1)) = false from inB_not.2 (by omega)]; simp
          refine GC.skip ?_
          refine GE.seq ?_
          refine GC.seq ?_
          refine GC.region ?_
          refine GL.v Wlba ?_
          refine GL.v Wlba ?_
          refine GL.call rfl rfl (MoveHistory_spec _ _ _ _ _ (by first | assumption | exact RdG.imp (by assumption) Wim | exact RdG.of_pick Wpk Wpk) _ _ _ (by first | assumption | exact RdLs.imp (by assumption) Wim | exact RdLs.of_pick Wpk Wpk) _ _ (by first | omega | exact SizeG.le (by assumption)) (by assumption) (by omega) (by omega)) ?_
          rintro _ _ ⟨B63, d63, ls63, E63, f63, hli63, rfl, rfl⟩
          rw [(mov_yes hm1).1] at hli63
          rw [(mov_yes hm1).2.1, hm1]
          have hZ63 := SizeLs.li hZ29 hli63
          have hl63 := li_eq_length hli63
          have hx63 : (a21 + 1 + -1).toNat < ls63.length := by omega
          have hx21 : a21.toNat < ls21.length := by omega
          have hx29 : (a21 + 1).toNat < ls29.length := by omega
          have hq2 : (ls29[(a21 + 1).toNat]'hx29).xs = xs21 := by rw [← li_getD hx29]; exact hlast
          have hq1 : (ls63[(a21 + 1 + -1).toNat]'hx63).xs = (ls21[a21.toNat]'hx21).xs := by rw [← li_getD hx63, ← li_getD hx21, hli63, show (a21 + 1 + -1).toNat = a21.toNat by omega]; exact hprev
          refine GL.v Wmv ?_
          refine GL.v Wxt ?_
          refine GL.v Wxt ?_
          refine GL.v Wxt ?_
          refine GL.alloc rfl ?_; intro g10
          refine GL.store_varN rfl rfl rfl Wpk (by rfl) (by rfl) (by rfl) ?_
          refine GL.v Wag ?_
          refine GL.v Wag ?_
          refine GL.nil ?_
          refine GE.seq ?_
          refine GC.seq ?_
          refine GC.region ?_
          refine GL.v Wlba ?_
          refine GL.v Wlba ?_
          refine GL.call rfl rfl (MoveHistory_spec _ _ _ _ _ (by first | assumption | exact RdG.imp (by assumption) Wim | exact RdG.of_pick Wpk Wpk) _ _ _ (by first | assumption | exact RdLs.imp (by assumption) Wim | exact RdLs.of_pick Wpk Wpk) _ _ (by first | omega | exact SizeG.le (by assumption)) (by assumption) (by omega) (by omega)) ?_
          rintro _ _ ⟨B70, d70, ls70, E70, f70, hli70, rfl, rfl⟩
          rw [hm2]
          refine GL.v Wmv ?_
          refine GL.v Wxt ?_
          refine GL.v Wxt ?_
          refine GL.v Wxt ?_
          refine GL.alloc rfl ?_; intro g13
          refine GL.store_varN rfl rfl rfl Wpk (by rfl) (by rfl) (by rfl) ?_
          refine GL.v Wag ?_
          refine GL.v Wag ?_
          refine GL.nil ?_
          refine GE.seq ?_
          refine GC.seq ?_
          refine GC.region_quiet mixed (by kernel_rfl) ?_
          refine GL.v Wmv ?_
          refine GL.v Wmv ?_
          refine GL.gs (fun h5 => ?_) (fun h5 => ?_)
          · -- FffFt
            refine GL.want rfl rfl ?_
            refine GL.v Wmv ?_
            refine GL.want rfl rfl ?_
            refine GL.v Wnt ?_
            refine GL.v Wpt ?_
            refine GL.v Wmv ?_
            refine GL.gs (fun h6 => ?_) (fun h6 => ?_)
            · -- FffFtt
              refine GL.want rfl rfl ?_
              refine GL.v Wfa ?_
              refine GL.want rfl rfl ?_
              refine GL.v Wlb ?_
              refine GL.want rfl rfl ?_
              refine GL.v Wfa ?_
              refine GL.want rfl rfl ?_
              refine GL.v Wlb ?_
              refine GL.want rfl rfl ?_
              refine GL.v Wix ?_
              refine GL.want rfl rfl ?_
              refine GL.v Wle ?_
              refine GL.want rfl rfl ?_
              refine GL.v Wfa ?_
              refine GL.want rfl rfl ?_
              refine GL.v Wlb ?_
              refine GL.want rfl rfl ?_
              refine GL.v Wfa ?_
              refine GL.want rfl rfl ?_
              refine GL.v Wlb ?_
              refine GL.want rfl rfl ?_
              refine GL.v Wix ?_
              refine GL.want rfl rfl ?_
              refine GL.v Wle ?_
              refine GL.want rfl rfl ?_
              refine GL.callF rfl rfl (equalInts_spec _ _ _ _ _ (Rd.of_rows (ls := ls63) Wpk (List.getElem_mem hx63)) _ _ _ (Rd.of_rows (ls := ls21) Wpk (List.getElem_mem hx21)) (hZ63.2 _ hx63)) ?_
              refine GL.v Wpt ?_
              refine GL.v Wmv ?_
              refine GL.gs (fun h7 => ?_) (fun h7 => ?_)
              · -- FffFttt
                refine GL.want rfl rfl ?_
                refine GL.v Wfa ?_
                refine GL.want rfl rfl ?_
                refine GL.v Wlb ?_
                refine GL.want rfl rfl ?_
                refine GL.v Wfa ?_
                refine GL.want rfl rfl ?_
                refine GL.v Wlb ?_
                refine GL.want rfl rfl ?_
                refine GL.v Wix ?_
                refine GL.want rfl rfl ?_
                refine GL.v Wle ?_
                refine GL.want rfl rfl ?_
                refine GL.v Wmv ?_
                refine GL.want rfl rfl ?_
                refine GL.callF rfl rfl (equalInts_spec _ _ _ _ _ (Rd.of_rows (ls := ls29) Wpk (List.getElem_mem hx29)) _ _ _ Wrd (hZ29.2 _ hx29)) ?_
                refine GL.v Wpt ?_
                refine GL.v Wmv ?_
                refine GL.gs (fun h8 => ?_) (fun h8 => ?_)
                · -- FffFtttt
                  refine GL.want rfl rfl ?_
                  refine GL.v Wlba ?_
                  refine GL.want rfl rfl ?_
                  refine GL.v Wlba ?_
                  refine GL.want rfl rfl ?_
                  refine GL.callF rfl rfl (iValidHistory_spec _ _ _ _ _ (by first | assumption | exact RdG.imp (by assumption) Wim | exact RdG.of_pick Wpk Wpk) _ _ _ (by first | assumption | exact RdLs.imp (by assumption) Wim | exact RdLs.of_pick Wpk Wpk) _ (by first | omega | exact SizeG.le (by assumption)) (by assumption)) ?_
                  refine GL.v Wpt ?_
                  refine GL.v Wag ?_
                  refine GL.nil ?_
                  refine GE.seq ?_
                  refine GC.ret ?_
                  -- returns, path FffFtttt
                  refine GE.ret_tmp (L' := L) (.inl rfl) rfl rfl Wsb ?_
                  exact ⟨by rw [hch], rfl⟩
                · -- FffFtttf
                  exact absurd hq2 h8
              · -- FffFttf
                exact absurd hq1 h7
            · -- FffFtf
              cases h6
          · -- FffFf
            cases h5
theorem fnCommitCells_calls {H : Type} {enc : TypeId × Value → H} {W : World} {base : Nat} {args : Array Value} {ds : List (DataW H)} {p : List MemPlace} (hval : ∀ (j : Nat) t v, Try.f13.params[j]? = some t → args[j]? = some v → Value.okWide Try.prog W .any base t v)
    (hA : DataW.TrodAll enc Try.prog W 0 (fun _ => true) true Try.f13.params.toList args.toList ds p) : Tr Try.prog 13 args W [] (fun v L' => v = .bool true ∧ L' = []) := by
  rw [Try.params13] at hA hval
  obtain ⟨v0, vs0, d0, ds0, p0, q0, hargs, rfl, rfl, h0, r0⟩ := trodAll_cons hA
  obtain ⟨rfl, rfl, rfl⟩ := trodAll_nil r0
  obtain rfl : args = #[v0] := by cases args; simp_all
  obtain ⟨A, c, bs, rfl, hR, hb⟩ := arg_sl (E := byteE) (st := 22) (by kernel_rfl) (opens_bytes W) (hval 0 _ v0 rfl rfl) h0
  exact FnCommitCells_spec W [] A c bs hR (fun x hx => wf_u8 (hb x hx))
theorem fnCommitCells_lifted (os : Os) (started : os.Started) (H : Type) (enc : TypeId × Value → H) :
    ReturnsInHanded {} Try.checked os 13 .any (Ytpkooglnapjcnaa.Rows.fnCommitCellsSpec.pre6 enc Try.prog Try.f13 Ytpkooglnapjcnaa.Rows.fnCommitCellsRow.domain false) (Ytpkooglnapjcnaa.Rows.fnCommitCellsSpec.post enc Try.prog Try.f13 false true false false) := by
  refine returnsInHanded_of_change (C := Try.checked) own started (by kernel_rfl) Try.func13
    (ChangeSpec.witness6 (enc := enc) (C := Try.checked) false ⟨#[], #[.slice none 0 0], []⟩ 8 (by kernel_rfl) (by kernel_rfl) (by kernel_rfl) (by kernel_rfl)) ?_
  intro W base args ds gs before hval0 hW hcnd _
  have hval : ∀ (j : Nat) t v, Try.f13.params[j]? = some t → args[j]? = some v → Value.okWide Try.prog W .any base t v := hval0
  have hW' := hW
  obtain ⟨p, q, hA0, _⟩ := hW
  have hA : DataW.TrodAll enc Try.prog W 0 (fun _ => true) true Try.f13.params.toList args.toList ds p := hA0
  have hlen : ds.length = Try.f13.params.toList.length := trodAll_len hA
  rw [Try.params13] at hlen
  refine ((fnCommitCells_calls hval hA).go W (St.start W)).mono ?_
  rintro e W' ⟨v, L', ⟨rfl, rfl⟩, rfl, hs⟩
  exact ⟨_, rfl, law_post kids full (by rw [Try.params13]; decide) hW' rfl (fun hg => by subst hg; match ds, hlen with | [_], _ => exact bool_res) (fun hg => by subst hg; match ds, hlen with | [_], _ => rfl) (fun hg => by subst hg; match ds, hlen with | [_], _ => rfl) hs.below⟩
theorem fnCommitCells_over : Ytpkooglnapjcnaa.Rows.fnCommitCellsRow.holds Try.pinned (OpenSpec.ofChange Ytpkooglnapjcnaa.Rows.fnCommitCellsSpec) :=
  OpenClaim.holds_of_wide 13 Try.f13 rfl rfl rfl rfl rfl rfl rfl ⟨rfl, rfl, rfl, rfl, rfl⟩ rfl rfl rfl rfl rfl (by kernel_rfl) Try.func13 (by kernel_rfl)
    (of_decide_eq_true (by kernel_rfl)) (by unfold Func.isWrapper; first | (rw [if_pos (by decide +kernel)]; kernel_rfl) | (rw [if_neg (by decide +kernel)]; exact ⟨rfl, rfl⟩))
    (fun os started H enc _ => fnCommitCells_lifted os started H enc)
end SG
namespace Go.Proofs.Ytpkooglnapjcnaa
theorem fnCommitCells_proved : Rows.FnCommitCellsSaid := SG.fnCommitCells_over
end Go.Proofs.Ytpkooglnapjcnaa
#print axioms Go.Proofs.Ytpkooglnapjcnaa.fnCommitCells_proved
