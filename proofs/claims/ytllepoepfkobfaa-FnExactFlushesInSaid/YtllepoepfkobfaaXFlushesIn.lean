/- The law FnExactFlushesIn holds for every input. -/
import Derived.Test.YtllepoepfkobfaaD43
import Derived.Test.YtllepoepfkobfaaD46
import Derived.Test.YtllepoepfkobfaaD47
import Derived.Test.YtllepoepfkobfaaRows
namespace SG
open Go Go.RowKit Go.Proofs Go.Proofs.Ytllepoepfkobfaa Go.ChangeShapes Go.WideShapes Go.Deep
set_option linter.unusedVariables false
set_option linter.unusedSimpArgs false
set_option maxRecDepth 100000
theorem FnExactFlushesIn_spec (w0 : World) (L : List Asn) (A : Option Addr) (c : Nat) (ms : List NdM) (hG : RdL w0 L A c ms) (E : Option Addr) (e : Nat) (acts : List Act3) (hA : Rd w0 L lactE E e acts) :
    Tr Try.prog 6 #[.agg #[.slice A ms.length c], .slice E acts.length e] w0 L (fun v L' => v = .bool true ∧ L' = L) := by
  refine Tr.rd_cap hA fun hd1 hd2 => ?_
  refine Tr.enter (args := [.agg #[.slice A ms.length c], .slice E acts.length e]) Try.func6 Try.ntmps6 rfl rfl ?_
  refine GC.seq ?_
  refine GC.region ?_
  refine GL.box_agg rfl rfl ?_; intro g2
  refine GL.v Wag ?_
  refine GL.nil ?_
  refine GE.seq ?_
  refine GC.seq ?_
  refine GC.region ?_
  refine GL.v Wag ?_
  refine GL.nil ?_
  refine GE.seq ?_
  refine GC.seq ?_
  refine GC.region ?_
  refine GL.v Wlba ?_
  refine GL.v Wmv ?_
  refine GL.call rfl rfl (szGraph_spec _ _ _ _ _ (RdL.imp (by assumption) Wim) _ (by omega) (by omega)) ?_
  rintro _ _ ⟨x14, rfl, x14a, x14b, x14c, e14⟩
  rw [e14]; clear e14
  refine GL.v Wag ?_
  refine GL.nil ?_
  refine GE.seq ?_
  refine GC.seq ?_
  refine GC.seq ?_
  refine GC.region ?_
  refine GL.v Wmv ?_
  refine GL.v Wls ?_
  refine GL.nil ?_
  refine GE.seq ?_
  refine GC.ifs (fun h1 => ?_) (fun h1 => ?_)
  · -- T
    refine GC.seq ?_
    refine GC.region ?_
    refine GL.v Wag ?_
    refine GL.nil ?_
    refine GE.seq ?_
    refine GC.ret ?_
    refine GE.seq_ret ?_
    -- returns, path T
    refine GE.ret_tmp (L' := L) (.inl rfl) rfl rfl Wsb ?_
    exact ⟨rfl, rfl⟩
  · -- F
    have hS := x14c (by omega)
    have hSl := hS.1
    refine GC.skip ?_
    refine GE.seq ?_
    refine GC.seq ?_
    refine GC.region ?_
    refine GL.v Wmv ?_
    refine GL.v Wmv ?_
    refine GL.callF rfl rfl (szActS_spec _ _ _ _ _ _ Wom Wom Wom) ?_
    refine GL.v Wag ?_
    refine GL.nil ?_
    refine GE.seq ?_
    refine GC.seq ?_
    refine GC.seq ?_
    refine GC.region ?_
    refine GL.v Wmv ?_
    refine GL.v Wls ?_
    refine GL.nil ?_
    refine GE.seq ?_
    refine GC.ifs (fun h2 => ?_) (fun h2 => ?_)
    · -- FT
      refine GC.seq ?_
      refine GC.region ?_
      refine GL.v Wag ?_
      refine GL.nil ?_
      refine GE.seq ?_
      refine GC.ret ?_
      refine GE.seq_ret ?_
      -- returns, path FT
      refine GE.ret_tmp (L' := L) (.inl rfl) rfl rfl Wsb ?_
      exact ⟨rfl, rfl⟩
    · -- FF
      have hal : acts.length ≤ 1048576 := by split at h2 <;> omega
      refine GC.skip ?_
      refine GE.seq ?_
      refine GC.seq ?_
      refine GC.region ?_
      refine GL.v Wlba ?_
      refine GL.call rfl rfl (toGraph_spec _ _ _ _ _ (RdL.imp (by assumption) Wim) (by assumption)) ?_
      rintro _ _ ⟨B24, ns24, hgr24, rfl, rfl⟩
      have hS24 := SizeG.gr (by assumption) hgr24
      refine GL.v Wmv ?_
      refine GL.call rfl rfl (toActS_spec _ _ _ _ _ Wrd Wom) ?_
      rintro _ _ ⟨B26, rfl, rfl⟩
      refine GL.callF rfl rfl (sFlushesIn_spec _ _ _ _ _ (by first | assumption | exact RdG.imp (by assumption) Wim | exact RdG.of_pick Wpk Wpk) _ _ _ Wrd (by assumption) Wom) ?_
      rw [hgr24]
      refine GL.v Wmv ?_
      refine GL.v Wxt ?_
      refine GL.v Wxt ?_
      refine GL.v Wag ?_
      refine GL.v Wag ?_
      refine GL.nil ?_
      refine GE.seq ?_
      refine GC.seq ?_
      refine GC.region ?_
      refine GL.v Wlba ?_
      refine GL.call rfl rfl (toGraph_spec _ _ _ _ _ (RdL.imp (by assumption) Wim) (by assumption)) ?_
      rintro _ _ ⟨B31, ns31, hgr31, rfl, rfl⟩
      have hS31 := SizeG.gr (by assumption) hgr31
      refine GL.alloc rfl ?_; intro g8
      refine GL.store_varN rfl rfl rfl Wpk (by rfl) (by rfl) (by rfl) ?_
      refine GL.nil ?_
      refine GE.seq ?_
      refine GC.seq ?_
      refine GC.region ?_
      refine GL.v Wmv ?_
      refine GL.call rfl rfl (toActS_spec _ _ _ _ _ Wrd Wom) ?_
      rintro _ _ ⟨B33, rfl, rfl⟩
      refine GL.v Wag ?_
      refine GL.nil ?_
      refine GE.seq ?_
      refine GC.seq ?_
      refine GC.region ?_
      refine GL.v Wlba ?_
      refine GL.v Wmv ?_
      refine GL.callF rfl rfl (iFlushesIn_spec _ _ _ _ _ (by first | assumption | exact RdG.imp (by assumption) Wim | exact RdG.of_pick Wpk Wpk) _ _ _ Wrd (by first | omega | exact SizeG.le (by assumption)) Wom) ?_
      rw [hgr31]
      refine GL.v Wmv ?_
      refine GL.v Wxt ?_
      refine GL.v Wxt ?_
      refine GL.v Wag ?_
      refine GL.v Wag ?_
      refine GL.nil ?_
      refine GE.seq ?_
      refine GC.seq ?_
      refine GC.seq ?_
      refine GC.region ?_
      refine GL.v Wmv ?_
      refine GL.v Wmv ?_
      refine GL.v Wnq ?_
      refine GL.v Wmv ?_
      refine GL.gs (fun h3 => ?_) (fun h3 => ?_)
      · -- FFt
        exact absurd rfl h3
      · -- FFf
        refine GL.want rfl rfl ?_
        refine GL.v Wmv ?_
        refine GL.want rfl rfl ?_
        refine GL.v Wmv ?_
        refine GL.want rfl rfl ?_
        refine GL.v Wnq ?_
        refine GL.v Wpf ?_
        refine GL.nil ?_
        refine GE.seq ?_
        refine GC.ifs (fun h4 => ?_) (fun h4 => ?_)
        · -- FFfT
          exact absurd rfl h4
        · -- FFfF
          refine GC.skip ?_
          refine GE.seq ?_
          refine GC.seq ?_
          refine GC.seq ?_
          refine GC.region_any #[false, false, true, true, false] mixed ?_
          refine GA.read 0 #[false, true, true, false, false] rfl (by exact Wlba) rfl rfl (by kernel_rfl) rfl (by kernel_rfl) (by kernel_rfl) (fun _ _ _ h => h) ?_
          refine GA.read 1 #[true, false, false, false, false] rfl (by exact Wlba) rfl rfl (by kernel_rfl) rfl (by kernel_rfl) (by kernel_rfl) (fun _ _ _ h => h) ?_
          refine GA.branch (rs := [2]) (JOk.live (by exact Wlba) (JOk.live (by exact Wlba) JOk.nil)) (by kernel_rfl) (by simp) ?_
          refine GAs.cons rfl ?_ ?_
          · -- FFfF op 2
            refine GL.call rfl rfl (toGraph_spec _ _ _ _ _ (RdL.imp (by assumption) Wim) (by assumption)) ?_
            rintro _ _ ⟨B50, ns50, hgr50, rfl, rfl⟩
            have hS50 := SizeG.gr (by assumption) hgr50
            refine GL.nil ?_
            refine GE.any ?_
            refine GA.branch (rs := [3]) (JOk.dead (by kernel_rfl) (JOk.live (by exact Wlba) JOk.nil)) (by kernel_rfl) (by simp) ?_
            refine GAs.cons rfl ?_ ?_
            · -- FFfF op 3
              refine GL.callF rfl rfl (eqGraph_spec _ _ _ _ _ (by first | assumption | exact RdG.imp (by assumption) Wim | exact RdG.of_pick Wpk Wpk) _ _ _ (by first | assumption | exact RdG.imp (by assumption) Wim | exact RdG.of_pick Wpk Wpk) (by assumption)) ?_
              refine GL.nil ?_
              refine GE.any ?_
              refine GA.take 4 #[true, true, true, true, false] rfl (by exact Ev.not rfl) rfl rfl (by kernel_rfl) rfl (by kernel_rfl) (by kernel_rfl) (fun _ _ _ h => h) ?_
              refine GA.done (JOk.dead (by kernel_rfl) (JOk.dead (by kernel_rfl) JOk.nil)) (by kernel_rfl) ?_
              refine GE.seq ?_
              refine GC.ifs (fun h5 => ?_) (fun h5 => ?_)
              · -- FFfFT
                exact absurd (hgr31.trans hgr50.symm) h5
              · -- FFfFF
                refine GC.skip ?_
                refine GE.seq ?_
                refine GC.seq ?_
                refine GC.seq ?_
                refine GC.region ?_
                refine GL.v Wmv ?_
                refine GL.v Wmv ?_
                refine GL.call rfl rfl (toActS_spec _ _ _ _ _ Wrd Wom) ?_
                rintro _ _ ⟨B55, rfl, rfl⟩
                refine GL.callF rfl rfl (eqActS_spec _ _ _ _ _ Wrd _ _ _ Wrd Wom) ?_
                refine GL.v Wnt ?_
                refine GL.nil ?_
                refine GE.seq ?_
                refine GC.ifs (fun h6 => ?_) (fun h6 => ?_)
                · -- FFfFFT
                  exact absurd rfl h6
                · -- FFfFFF
                  refine GC.skip ?_
                  refine GE.seq ?_
                  refine GC.seq ?_
                  refine GC.region ?_
                  refine GL.v Wag ?_
                  refine GL.nil ?_
                  refine GE.seq ?_
                  refine GC.ret ?_
                  -- returns, path FFfFFF
                  refine GE.ret_tmp (L' := L) (.inl rfl) rfl rfl Wsb ?_
                  exact ⟨rfl, rfl⟩
            exact GAs.nil
          exact GAs.nil
theorem fnExactFlushesIn_calls {H : Type} {enc : TypeId × Value → H} {W : World} {base : Nat} {args : Array Value} {ds : List (DataW H)} {p : List MemPlace} (hval : ∀ (j : Nat) t v, Try.f6.params[j]? = some t → args[j]? = some v → Value.okWide Try.prog W .any base t v)
    (hA : DataW.TrodAll enc Try.prog W 0 (fun _ => true) true Try.f6.params.toList args.toList ds p) : Tr Try.prog 6 args W [] (fun v L' => v = .bool true ∧ L' = []) := by
  rw [Try.params6] at hA hval
  obtain ⟨v0, vs0, d0, ds0, p0, q0, hargs, rfl, rfl, h0, r0⟩ := trodAll_cons hA
  obtain ⟨v1, vs1, d1, ds1, p1, q1, rfl, rfl, rfl, h1, r1⟩ := trodAll_cons r0
  obtain ⟨rfl, rfl, rfl⟩ := trodAll_nil r1
  obtain rfl : args = #[v0, v1] := by cases args; simp_all
  obtain ⟨A, c, ms, rfl, hG⟩ := arg_graph (hval 0 _ v0 rfl rfl) h0
  obtain ⟨E, e, acts, rfl, hA, _⟩ := arg_sl (E := lactE) (st := 34) (by kernel_rfl) (opens_lact W) (hval 1 _ v1 rfl rfl) h1
  exact FnExactFlushesIn_spec W [] A c ms hG E e acts hA
theorem fnExactFlushesIn_lifted (os : Os) (started : os.Started) (H : Type) (enc : TypeId × Value → H) :
    ReturnsInHanded {} Try.checked os 6 .any (Ytllepoepfkobfaa.Rows.fnExactFlushesInSpec.pre6 enc Try.prog Try.f6 Ytllepoepfkobfaa.Rows.fnExactFlushesInRow.domain false) (Ytllepoepfkobfaa.Rows.fnExactFlushesInSpec.post enc Try.prog Try.f6 false true false false) := by
  refine returnsInHanded_of_change (C := Try.checked) own started (by kernel_rfl) Try.func6
    (ChangeSpec.witness6 (enc := enc) (C := Try.checked) false ⟨#[], #[.agg #[.slice none 0 0], .slice none 0 0], []⟩ 8 (by kernel_rfl) (by kernel_rfl) (by kernel_rfl) (by kernel_rfl)) ?_
  intro W base args ds gs before hval0 hW hcnd _
  have hval : ∀ (j : Nat) t v, Try.f6.params[j]? = some t → args[j]? = some v → Value.okWide Try.prog W .any base t v := hval0
  have hW' := hW
  obtain ⟨p, q, hA0, _⟩ := hW
  have hA : DataW.TrodAll enc Try.prog W 0 (fun _ => true) true Try.f6.params.toList args.toList ds p := hA0
  have hlen : ds.length = Try.f6.params.toList.length := trodAll_len hA
  rw [Try.params6] at hlen
  refine ((fnExactFlushesIn_calls hval hA).go W (St.start W)).mono ?_
  rintro e W' ⟨v, L', ⟨rfl, rfl⟩, rfl, hs⟩
  exact ⟨_, rfl, law_post kids full (by rw [Try.params6]; decide) hW' rfl (fun hg => by subst hg; match ds, hlen with | [_, _], _ => exact bool_res) (fun hg => by subst hg; match ds, hlen with | [_, _], _ => rfl) (fun hg => by subst hg; match ds, hlen with | [_, _], _ => rfl) hs.below⟩
theorem fnExactFlushesIn_over : Ytllepoepfkobfaa.Rows.fnExactFlushesInRow.holds Try.pinned (OpenSpec.ofChange Ytllepoepfkobfaa.Rows.fnExactFlushesInSpec) :=
  OpenClaim.holds_of_wide 6 Try.f6 rfl rfl rfl rfl rfl rfl rfl ⟨rfl, rfl, rfl, rfl, rfl⟩ rfl rfl rfl rfl rfl (by kernel_rfl) Try.func6 (by kernel_rfl)
    (of_decide_eq_true (by kernel_rfl)) (by unfold Func.isWrapper; first | (rw [if_pos (by decide +kernel)]; kernel_rfl) | (rw [if_neg (by decide +kernel)]; exact ⟨rfl, rfl⟩))
    (fun os started H enc _ => fnExactFlushesIn_lifted os started H enc)
end SG
namespace Go.Proofs.Ytllepoepfkobfaa
theorem fnExactFlushesIn_proved : Rows.FnExactFlushesInSaid := SG.fnExactFlushesIn_over
end Go.Proofs.Ytllepoepfkobfaa
#print axioms Go.Proofs.Ytllepoepfkobfaa.fnExactFlushesIn_proved
