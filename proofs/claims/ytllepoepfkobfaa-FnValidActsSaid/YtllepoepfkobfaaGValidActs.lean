/- The law FnValidActs holds for every input. -/
import Derived.Test.YtllepoepfkobfaaD42
import Derived.Test.YtllepoepfkobfaaOpen
import Derived.Test.YtllepoepfkobfaaRows
namespace SG
open Go Go.RowKit Go.Proofs Go.Proofs.Ytllepoepfkobfaa Go.ChangeShapes Go.WideShapes Go.Deep
set_option linter.unusedVariables false
set_option linter.unusedSimpArgs false
set_option maxRecDepth 100000
theorem FnValidActs_spec (w0 : World) (L : List Asn) (A : Option Addr) (c : Nat) (bs : List Int) (hR : Rd w0 [] byteE A c bs) (hb : ∀ x ∈ bs, 0 ≤ x ∧ x ≤ 255) :
    Tr Try.prog 3 #[.slice A bs.length c] w0 L (fun v L' => v = .bool true ∧ L' = L) := by
  refine Tr.rd_cap (hR.imp Imp.nil) fun hc1 hc2 => ?_
  refine Tr.enter (args := [.slice A bs.length c]) Try.func3 Try.ntmps3 rfl rfl ?_
  refine GC.seq ?_
  refine GC.region ?_
  refine GL.v Wag ?_
  refine GL.nil ?_
  refine GE.seq ?_
  refine GC.seq ?_
  refine GC.seq ?_
  refine GC.region ?_
  refine GL.v Wmv ?_
  refine GL.v Wln ?_
  refine GL.v Wgt ?_
  refine GL.nil ?_
  refine GE.seq ?_
  refine GC.ifs (fun h1 => ?_) (fun h1 => ?_)
  · -- T
    refine GC.seq ?_
    refine GC.region ?_
    refine GL.v Wag ?_
    refine GL.nil ?_
    refine GE.seq ?_
    refine GC.ret ?_
    refine GE.seq_ret ?_
    -- returns, path T
    refine GE.ret_tmp (L' := L) (.inl rfl) rfl rfl Wsb ?_
    exact ⟨rfl, rfl⟩
  · -- F
    refine GC.skip ?_
    refine GE.seq ?_
    refine GC.seq ?_
    refine GC.region ?_
    refine GL.v Wmv ?_
    refine GL.call rfl rfl (DrawValidActs_spec _ _ _ _ _ (by assumption) (by assumption) (by omega) (by omega)) ?_
    rintro _ _ ⟨D11, e11, ms11, E11, f11, ac11, rfl, ms11a, ms11b, ms11c, ac11a, rfl⟩
    have hS11 := SizeG.small ms11b ms11c
    refine GL.row_cap (E := actE) (A := E11) (c := f11) (xs := ac11) Wpk fun he1 he2 => ?_
    refine GL.v Wmv ?_
    refine GL.v Wxt ?_
    refine GL.v Wxt ?_
    refine GL.alloc rfl ?_; intro g3
    refine GL.store_varN rfl rfl rfl Wpk (by rfl) (by rfl) (by rfl) ?_
    refine GL.v Wag ?_
    refine GL.nil ?_
    refine GE.seq ?_
    refine GC.seq ?_
    refine GC.region ?_
    refine GL.v Wlba ?_
    refine GL.v Wmv ?_
    refine GL.callF rfl rfl (iValidActs_spec _ _ _ _ _ (by first | assumption | exact RdG.imp (by assumption) Wim | exact RdG.of_pick Wpk Wpk) _ _ _ Wrd (by first | omega | exact SizeG.le (by assumption)) Wom) ?_
    refine GL.v Wag ?_
    refine GL.nil ?_
    refine GE.seq ?_
    refine GC.seq ?_
    refine GC.seq ?_
    refine GC.region ?_
    refine GL.v Wmv ?_
    refine GL.v Wlba ?_
    refine GL.v Wmv ?_
    refine GL.callF rfl rfl (sValidActs_spec _ _ _ _ _ (by first | assumption | exact RdG.imp (by assumption) Wim | exact RdG.of_pick Wpk Wpk) _ _ _ Wrd (by assumption) Wom) ?_
    refine GL.v (by exact EvP.r (Ev.neq_bool rfl rfl)) ?_
    refine GL.v Wmv ?_
    refine GL.gs (fun h2 => ?_) (fun h2 => ?_)
    · -- Ft
      exact absurd rfl h2
    · -- Ff
      refine GL.want rfl rfl ?_
      refine GL.v Wmv ?_
      refine GL.want rfl rfl ?_
      refine GL.v Wnt ?_
      refine GL.v Wpf ?_
      refine GL.nil ?_
      refine GE.seq ?_
      refine GC.ifs (fun h3 => ?_) (fun h3 => ?_)
      · -- FfT
        refine GC.seq ?_
        refine GC.region ?_
        refine GL.v Wmv ?_
        refine GL.v Wlba ?_
        refine GL.v Wmv ?_
        refine GL.callF rfl rfl (sValidActs_spec _ _ _ _ _ (by first | assumption | exact RdG.imp (by assumption) Wim | exact RdG.of_pick Wpk Wpk) _ _ _ Wrd (by assumption) Wom) ?_
        refine GL.v (by exact EvP.r (Ev.eql_bool rfl rfl)) ?_
        refine GL.v Wag ?_
        refine GL.nil ?_
        refine GE.seq ?_
        refine GC.ret ?_
        refine GE.seq_ret ?_
        -- returns, path FfT
        refine GE.ret_tmp (L' := L) (.inl rfl) rfl rfl Wsb ?_
        exact ⟨by simp, rfl⟩
      · -- FfF
        have hkl : (ac11.take (ac11.length / 2)).length = ac11.length / 2 := by rw [List.length_take]; omega
        have hv : actsB (gr ms11) ac11 = true := h3
        refine GC.skip ?_
        refine GE.seq ?_
        refine GC.seq ?_
        refine GC.region_quiet mixed (by kernel_rfl) ?_
        refine GL.v Wlba ?_
        refine GL.v Wmv ?_
        refine GL.v Wmv ?_
        refine GL.v Wln ?_
        refine GL.v (by exact EvP.r (Ev.quo rfl rfl (by omega) (by omega) (by omega))) ?_
        refine GL.v (by exact EvP.r (Ev.cut_to (k := ac11.length / 2) rfl rfl (by omega) (by omega))) ?_
        refine GL.callF rfl rfl ((hkl ▸ iValidActs_spec _ _ _ _ _ (by first | assumption | exact RdG.imp (by assumption) Wim | exact RdG.of_pick Wpk Wpk) E11 f11 (ac11.take (ac11.length / 2)) ((Rd.of_pick Wpk).take _) (by first | omega | exact SizeG.le (by assumption)) (by omega))) ?_
        refine GL.v Wmv ?_
        refine GL.gs (fun h4 => ?_) (fun h4 => ?_)
        · -- FfFt
          refine GL.want rfl rfl ?_
          refine GL.v Wlba ?_
          refine GL.want rfl rfl ?_
          refine GL.callF rfl rfl (iValidActs_spec _ _ _ _ _ (by first | assumption | exact RdG.imp (by assumption) Wim | exact RdG.of_pick Wpk Wpk) none 0 [] (Rd.nil (by decide)) (by first | omega | exact SizeG.le (by assumption)) (by simp)) ?_
          refine GL.v Wpt ?_
          refine GL.v Wag ?_
          refine GL.nil ?_
          refine GE.seq ?_
          refine GC.ret ?_
          -- returns, path FfFt
          refine GE.ret_tmp (L' := L) (.inl rfl) rfl rfl Wsb ?_
          exact ⟨by rw [show actsB (gr ms11) [] = true from actsB_take hv 0], rfl⟩
        · -- FfFf
          rw [actsB_take hv] at h4; cases h4
theorem fnValidActs_calls {H : Type} {enc : TypeId × Value → H} {W : World} {base : Nat} {args : Array Value} {ds : List (DataW H)} {p : List MemPlace} (hval : ∀ (j : Nat) t v, Try.f3.params[j]? = some t → args[j]? = some v → Value.okWide Try.prog W .any base t v)
    (hA : DataW.TrodAll enc Try.prog W 0 (fun _ => true) true Try.f3.params.toList args.toList ds p) : Tr Try.prog 3 args W [] (fun v L' => v = .bool true ∧ L' = []) := by
  rw [Try.params3] at hA hval
  obtain ⟨v0, vs0, d0, ds0, p0, q0, hargs, rfl, rfl, h0, r0⟩ := trodAll_cons hA
  obtain ⟨rfl, rfl, rfl⟩ := trodAll_nil r0
  obtain rfl : args = #[v0] := by cases args; simp_all
  obtain ⟨A, c, bs, rfl, hR, hb⟩ := arg_sl (E := byteE) (st := 22) (by kernel_rfl) (opens_bytes W) (hval 0 _ v0 rfl rfl) h0
  exact FnValidActs_spec W [] A c bs hR (fun x hx => wf_u8 (hb x hx))
theorem fnValidActs_lifted (os : Os) (started : os.Started) (H : Type) (enc : TypeId × Value → H) :
    ReturnsInHanded {} Try.checked os 3 .any (Ytllepoepfkobfaa.Rows.fnValidActsSpec.pre6 enc Try.prog Try.f3 Ytllepoepfkobfaa.Rows.fnValidActsRow.domain false) (Ytllepoepfkobfaa.Rows.fnValidActsSpec.post enc Try.prog Try.f3 false true false false) := by
  refine returnsInHanded_of_change (C := Try.checked) own started (by kernel_rfl) Try.func3
    (ChangeSpec.witness6 (enc := enc) (C := Try.checked) false ⟨#[], #[.slice none 0 0], []⟩ 8 (by kernel_rfl) (by kernel_rfl) (by kernel_rfl) (by kernel_rfl)) ?_
  intro W base args ds gs before hval0 hW hcnd _
  have hval : ∀ (j : Nat) t v, Try.f3.params[j]? = some t → args[j]? = some v → Value.okWide Try.prog W .any base t v := hval0
  have hW' := hW
  obtain ⟨p, q, hA0, _⟩ := hW
  have hA : DataW.TrodAll enc Try.prog W 0 (fun _ => true) true Try.f3.params.toList args.toList ds p := hA0
  have hlen : ds.length = Try.f3.params.toList.length := trodAll_len hA
  rw [Try.params3] at hlen
  refine ((fnValidActs_calls hval hA).go W (St.start W)).mono ?_
  rintro e W' ⟨v, L', ⟨rfl, rfl⟩, rfl, hs⟩
  exact ⟨_, rfl, law_post kids full (by rw [Try.params3]; decide) hW' rfl (fun hg => by subst hg; match ds, hlen with | [_], _ => exact bool_res) (fun hg => by subst hg; match ds, hlen with | [_], _ => rfl) (fun hg => by subst hg; match ds, hlen with | [_], _ => rfl) hs.below⟩
theorem fnValidActs_over : Ytllepoepfkobfaa.Rows.fnValidActsRow.holds Try.pinned (OpenSpec.ofChange Ytllepoepfkobfaa.Rows.fnValidActsSpec) :=
  OpenClaim.holds_of_wide 3 Try.f3 rfl rfl rfl rfl rfl rfl rfl ⟨rfl, rfl, rfl, rfl, rfl⟩ rfl rfl rfl rfl rfl (by kernel_rfl) Try.func3 (by kernel_rfl)
    (of_decide_eq_true (by kernel_rfl)) (by unfold Func.isWrapper; first | (rw [if_pos (by decide +kernel)]; kernel_rfl) | (rw [if_neg (by decide +kernel)]; exact ⟨rfl, rfl⟩))
    (fun os started H enc _ => fnValidActs_lifted os started H enc)
end SG
namespace Go.Proofs.Ytllepoepfkobfaa
theorem fnValidActs_proved : Rows.FnValidActsSaid := SG.fnValidActs_over
end Go.Proofs.Ytllepoepfkobfaa
#print axioms Go.Proofs.Ytllepoepfkobfaa.fnValidActs_proved
