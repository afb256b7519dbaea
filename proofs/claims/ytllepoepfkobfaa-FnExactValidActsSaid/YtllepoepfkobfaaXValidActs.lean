/- The law FnExactValidActs holds for every input. -/
import Derived.Test.YtllepoepfkobfaaD43
import Derived.Test.YtllepoepfkobfaaRows
namespace SG
open Go Go.RowKit Go.Proofs Go.Proofs.Ytllepoepfkobfaa Go.ChangeShapes Go.WideShapes Go.Deep
set_option linter.unusedVariables false
set_option linter.unusedSimpArgs false
set_option maxRecDepth 100000
theorem FnExactValidActs_spec (w0 : World) (L : List Asn) (A : Option Addr) (c : Nat) (ms : List NdM) (hG : RdL w0 L A c ms) (E : Option Addr) (e : Nat) (acts : List Act3) (hA : Rd w0 L lactE E e acts) :
    Tr Try.prog 4 #[.agg #[.slice A ms.length c], .slice E acts.length e] w0 L (fun v L' => v = .bool true ∧ L' = L) := by
  refine Tr.rd_cap hA fun hd1 hd2 => ?_
  refine Tr.enter (args := [.agg #[.slice A ms.length c], .slice E acts.length e]) Try.func4 Try.ntmps4 rfl rfl ?_
  refine GC.seq ?_
  refine GC.region ?_
  refine GL.box_agg rfl rfl ?_; intro g2
  refine GL.v Wag ?_
  refine GL.nil ?_
  refine GE.seq ?_
  refine GC.seq ?_
  refine GC.region ?_
  refine GL.v Wag ?_
  refine GL.nil ?_
  refine GE.seq ?_
  refine GC.seq ?_
  refine GC.region ?_
  refine GL.v Wlba ?_
  refine GL.v Wmv ?_
  refine GL.call rfl rfl (szGraph_spec _ _ _ _ _ (RdL.imp (by assumption) Wim) _ (by omega) (by omega)) ?_
  rintro _ _ ⟨x12, rfl, x12a, x12b, x12c, e12⟩
  rw [e12]; clear e12
  refine GL.v Wag ?_
  refine GL.nil ?_
  refine GE.seq ?_
  refine GC.seq ?_
  refine GC.seq ?_
  refine GC.region ?_
  refine GL.v Wmv ?_
  refine GL.v Wls ?_
  refine GL.nil ?_
  refine GE.seq ?_
  refine GC.ifs (fun h1 => ?_) (fun h1 => ?_)
  · -- T
    refine GC.seq ?_
    refine GC.region ?_
    refine GL.v Wag ?_
    refine GL.nil ?_
    refine GE.seq ?_
    refine GC.ret ?_
    refine GE.seq_ret ?_
    -- returns, path T
    refine GE.ret_tmp (L' := L) (.inl rfl) rfl rfl Wsb ?_
    exact ⟨rfl, rfl⟩
  · -- F
    have hS := x12c (by omega)
    have hSl := hS.1
    refine GC.skip ?_
    refine GE.seq ?_
    refine GC.seq ?_
    refine GC.region ?_
    refine GL.v Wmv ?_
    refine GL.v Wmv ?_
    refine GL.callF rfl rfl (szActS_spec _ _ _ _ _ _ Wom Wom Wom) ?_
    refine GL.v Wag ?_
    refine GL.nil ?_
    refine GE.seq ?_
    refine GC.seq ?_
    refine GC.seq ?_
    refine GC.region ?_
    refine GL.v Wmv ?_
    refine GL.v Wls ?_
    refine GL.nil ?_
    refine GE.seq ?_
    refine GC.ifs (fun h2 => ?_) (fun h2 => ?_)
    · -- FT
      refine GC.seq ?_
      refine GC.region ?_
      refine GL.v Wag ?_
      refine GL.nil ?_
      refine GE.seq ?_
      refine GC.ret ?_
      refine GE.seq_ret ?_
      -- returns, path FT
      refine GE.ret_tmp (L' := L) (.inl rfl) rfl rfl Wsb ?_
      exact ⟨rfl, rfl⟩
    · -- FF
      have hal : acts.length ≤ 1048576 := by split at h2 <;> omega
      refine GC.skip ?_
      refine GE.seq ?_
      refine GC.seq ?_
      refine GC.region ?_
      refine GL.v Wlba ?_
      refine GL.call rfl rfl (toGraph_spec _ _ _ _ _ (RdL.imp (by assumption) Wim) (by assumption)) ?_
      rintro _ _ ⟨B21, ns21, hgr21, rfl, rfl⟩
      have hS21 := SizeG.gr (by assumption) hgr21
      refine GL.v Wmv ?_
      refine GL.call rfl rfl (toActS_spec _ _ _ _ _ Wrd Wom) ?_
      rintro _ _ ⟨B23, rfl, rfl⟩
      refine GL.callF rfl rfl (sValidActs_spec _ _ _ _ _ (by first | assumption | exact RdG.imp (by assumption) Wim | exact RdG.of_pick Wpk Wpk) _ _ _ Wrd (by assumption) Wom) ?_
      rw [hgr21]
      refine GL.v Wag ?_
      refine GL.nil ?_
      refine GE.seq ?_
      refine GC.seq ?_
      refine GC.region ?_
      refine GL.v Wlba ?_
      refine GL.call rfl rfl (toGraph_spec _ _ _ _ _ (RdL.imp (by assumption) Wim) (by assumption)) ?_
      rintro _ _ ⟨B26, ns26, hgr26, rfl, rfl⟩
      have hS26 := SizeG.gr (by assumption) hgr26
      refine GL.alloc rfl ?_; intro g7
      refine GL.store_varN rfl rfl rfl Wpk (by rfl) (by rfl) (by rfl) ?_
      refine GL.nil ?_
      refine GE.seq ?_
      refine GC.seq ?_
      refine GC.region ?_
      refine GL.v Wmv ?_
      refine GL.call rfl rfl (toActS_spec _ _ _ _ _ Wrd Wom) ?_
      rintro _ _ ⟨B28, rfl, rfl⟩
      refine GL.v Wag ?_
      refine GL.nil ?_
      refine GE.seq ?_
      refine GC.seq ?_
      refine GC.region ?_
      refine GL.v Wlba ?_
      refine GL.v Wmv ?_
      refine GL.callF rfl rfl (iValidActs_spec _ _ _ _ _ (by first | assumption | exact RdG.imp (by assumption) Wim | exact RdG.of_pick Wpk Wpk) _ _ _ Wrd (by first | omega | exact SizeG.le (by assumption)) Wom) ?_
      rw [hgr26]
      refine GL.v Wag ?_
      refine GL.nil ?_
      refine GE.seq ?_
      refine GC.seq ?_
      refine GC.seq ?_
      refine GC.region ?_
      refine GL.v Wmv ?_
      refine GL.v Wmv ?_
      refine GL.v (by exact EvP.r (Ev.neq_bool rfl rfl)) ?_
      refine GL.nil ?_
      refine GE.seq ?_
      refine GC.ifs (fun h3 => ?_) (fun h3 => ?_)
      · -- FFT
        exact absurd rfl h3
      · -- FFF
        refine GC.skip ?_
        refine GE.seq ?_
        refine GC.seq ?_
        refine GC.seq ?_
        refine GC.region_any #[false, false, true, true, false] mixed ?_
        refine GA.read 0 #[false, true, true, false, false] rfl (by exact Wlba) rfl rfl (by kernel_rfl) rfl (by kernel_rfl) (by kernel_rfl) (fun _ _ _ h => h) ?_
        refine GA.read 1 #[true, false, false, false, false] rfl (by exact Wlba) rfl rfl (by kernel_rfl) rfl (by kernel_rfl) (by kernel_rfl) (fun _ _ _ h => h) ?_
        refine GA.branch (rs := [2]) (JOk.live (by exact Wlba) (JOk.live (by exact Wlba) JOk.nil)) (by kernel_rfl) (by simp) ?_
        refine GAs.cons rfl ?_ ?_
        · -- FFF op 2
          refine GL.call rfl rfl (toGraph_spec _ _ _ _ _ (RdL.imp (by assumption) Wim) (by assumption)) ?_
          rintro _ _ ⟨B37, ns37, hgr37, rfl, rfl⟩
          have hS37 := SizeG.gr (by assumption) hgr37
          refine GL.nil ?_
          refine GE.any ?_
          refine GA.branch (rs := [3]) (JOk.dead (by kernel_rfl) (JOk.live (by exact Wlba) JOk.nil)) (by kernel_rfl) (by simp) ?_
          refine GAs.cons rfl ?_ ?_
          · -- FFF op 3
            refine GL.callF rfl rfl (eqGraph_spec _ _ _ _ _ (by first | assumption | exact RdG.imp (by assumption) Wim | exact RdG.of_pick Wpk Wpk) _ _ _ (by first | assumption | exact RdG.imp (by assumption) Wim | exact RdG.of_pick Wpk Wpk) (by assumption)) ?_
            refine GL.nil ?_
            refine GE.any ?_
            refine GA.take 4 #[true, true, true, true, false] rfl (by exact Ev.not rfl) rfl rfl (by kernel_rfl) rfl (by kernel_rfl) (by kernel_rfl) (fun _ _ _ h => h) ?_
            refine GA.done (JOk.dead (by kernel_rfl) (JOk.dead (by kernel_rfl) JOk.nil)) (by kernel_rfl) ?_
            refine GE.seq ?_
            refine GC.ifs (fun h4 => ?_) (fun h4 => ?_)
            · -- FFFT
              exact absurd (hgr26.trans hgr37.symm) h4
            · -- FFFF
              refine GC.skip ?_
              refine GE.seq ?_
              refine GC.seq ?_
              refine GC.seq ?_
              refine GC.region ?_
              refine GL.v Wmv ?_
              refine GL.v Wmv ?_
              refine GL.call rfl rfl (toActS_spec _ _ _ _ _ Wrd Wom) ?_
              rintro _ _ ⟨B42, rfl, rfl⟩
              refine GL.callF rfl rfl (eqActS_spec _ _ _ _ _ Wrd _ _ _ Wrd Wom) ?_
              refine GL.v Wnt ?_
              refine GL.nil ?_
              refine GE.seq ?_
              refine GC.ifs (fun h5 => ?_) (fun h5 => ?_)
              · -- FFFFT
                exact absurd rfl h5
              · -- FFFFF
                refine GC.skip ?_
                refine GE.seq ?_
                refine GC.seq ?_
                refine GC.region ?_
                refine GL.v Wag ?_
                refine GL.nil ?_
                refine GE.seq ?_
                refine GC.ret ?_
                -- returns, path FFFFF
                refine GE.ret_tmp (L' := L) (.inl rfl) rfl rfl Wsb ?_
                exact ⟨rfl, rfl⟩
          exact GAs.nil
        exact GAs.nil
theorem fnExactValidActs_calls {H : Type} {enc : TypeId × Value → H} {W : World} {base : Nat} {args : Array Value} {ds : List (DataW H)} {p : List MemPlace} (hval : ∀ (j : Nat) t v, Try.f4.params[j]? = some t → args[j]? = some v → Value.okWide Try.prog W .any base t v)
    (hA : DataW.TrodAll enc Try.prog W 0 (fun _ => true) true Try.f4.params.toList args.toList ds p) : Tr Try.prog 4 args W [] (fun v L' => v = .bool true ∧ L' = []) := by
  rw [Try.params4] at hA hval
  obtain ⟨v0, vs0, d0, ds0, p0, q0, hargs, rfl, rfl, h0, r0⟩ := trodAll_cons hA
  obtain ⟨v1, vs1, d1, ds1, p1, q1, rfl, rfl, rfl, h1, r1⟩ := trodAll_cons r0
  obtain ⟨rfl, rfl, rfl⟩ := trodAll_nil r1
  obtain rfl : args = #[v0, v1] := by cases args; simp_all
  obtain ⟨A, c, ms, rfl, hG⟩ := arg_graph (hval 0 _ v0 rfl rfl) h0
  obtain ⟨E, e, acts, rfl, hA, _⟩ := arg_sl (E := lactE) (st := 34) (by kernel_rfl) (opens_lact W) (hval 1 _ v1 rfl rfl) h1
  exact FnExactValidActs_spec W [] A c ms hG E e acts hA
theorem fnExactValidActs_lifted (os : Os) (started : os.Started) (H : Type) (enc : TypeId × Value → H) :
    ReturnsInHanded {} Try.checked os 4 .any (Ytllepoepfkobfaa.Rows.fnExactValidActsSpec.pre6 enc Try.prog Try.f4 Ytllepoepfkobfaa.Rows.fnExactValidActsRow.domain false) (Ytllepoepfkobfaa.Rows.fnExactValidActsSpec.post enc Try.prog Try.f4 false true false false) := by
  refine returnsInHanded_of_change (C := Try.checked) own started (by kernel_rfl) Try.func4
    (ChangeSpec.witness6 (enc := enc) (C := Try.checked) false ⟨#[], #[.agg #[.slice none 0 0], .slice none 0 0], []⟩ 8 (by kernel_rfl) (by kernel_rfl) (by kernel_rfl) (by kernel_rfl)) ?_
  intro W base args ds gs before hval0 hW hcnd _
  have hval : ∀ (j : Nat) t v, Try.f4.params[j]? = some t → args[j]? = some v → Value.okWide Try.prog W .any base t v := hval0
  have hW' := hW
  obtain ⟨p, q, hA0, _⟩ := hW
  have hA : DataW.TrodAll enc Try.prog W 0 (fun _ => true) true Try.f4.params.toList args.toList ds p := hA0
  have hlen : ds.length = Try.f4.params.toList.length := trodAll_len hA
  rw [Try.params4] at hlen
  refine ((fnExactValidActs_calls hval hA).go W (St.start W)).mono ?_
  rintro e W' ⟨v, L', ⟨rfl, rfl⟩, rfl, hs⟩
  exact ⟨_, rfl, law_post kids full (by rw [Try.params4]; decide) hW' rfl (fun hg => by subst hg; match ds, hlen with | [_, _], _ => exact bool_res) (fun hg => by subst hg; match ds, hlen with | [_, _], _ => rfl) (fun hg => by subst hg; match ds, hlen with | [_, _], _ => rfl) hs.below⟩
theorem fnExactValidActs_over : Ytllepoepfkobfaa.Rows.fnExactValidActsRow.holds Try.pinned (OpenSpec.ofChange Ytllepoepfkobfaa.Rows.fnExactValidActsSpec) :=
  OpenClaim.holds_of_wide 4 Try.f4 rfl rfl rfl rfl rfl rfl rfl ⟨rfl, rfl, rfl, rfl, rfl⟩ rfl rfl rfl rfl rfl (by kernel_rfl) Try.func4 (by kernel_rfl)
    (of_decide_eq_true (by kernel_rfl)) (by unfold Func.isWrapper; first | (rw [if_pos (by decide +kernel)]; kernel_rfl) | (rw [if_neg (by decide +kernel)]; exact ⟨rfl, rfl⟩))
    (fun os started H enc _ => fnExactValidActs_lifted os started H enc)
end SG
namespace Go.Proofs.Ytllepoepfkobfaa
theorem fnExactValidActs_proved : Rows.FnExactValidActsSaid := SG.fnExactValidActs_over
end Go.Proofs.Ytllepoepfkobfaa
#print axioms Go.Proofs.Ytllepoepfkobfaa.fnExactValidActs_proved
