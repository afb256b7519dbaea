/- Contracts: the laws' looks at graphs and nodes; drawn graphs with a node to add. -/
import Derived.Test.YtojffodplphlaaaD6
import Derived.Test.YtojffodplphlaaaD7
import Derived.Test.YtojffodplphlaaaD33
namespace SG
open Go Go.RowKit Go.Proofs
set_option linter.unusedVariables false
set_option linter.unusedSimpArgs false
set_option maxRecDepth 100000
theorem equalGraph_spec (w0 : World) (L : List Asn) (A : Option Addr) (c : Nat) (ms : List NdM) (hG : RdG w0 L A c ms) (B : Option Addr) (d : Nat) (ns : List NdM) (hH : RdG w0 L B d ns) (hS : SizeG ms) :
    Tr Try.prog 60 #[.agg #[.slice A ms.length c], .agg #[.slice B ns.length d]] w0 L (fun v L' => v = .bool (decide (gr ms = gr ns)) ∧ L' = L) := by
  have hN := hG.nodes
  have hM := hH.nodes
  have hSl := hS.1
  refine Tr.enter (args := [.agg #[.slice A ms.length c], .agg #[.slice B ns.length d]]) Try.func60 Try.ntmps60 rfl rfl ?_
  refine GC.seq ?_
  refine GC.region ?_
  refine GL.box_agg rfl rfl ?_; intro g2
  refine GL.box_agg rfl rfl ?_; intro g3
  refine GL.v Wag ?_
  refine GL.nil ?_
  refine GE.seq ?_
  refine GC.seq ?_
  refine GC.seq ?_
  refine GC.region ?_
  refine GL.v Wfa ?_
  refine GL.v Wlb ?_
  refine GL.v Wln ?_
  refine GL.v Wfa ?_
  refine GL.v Wlb ?_
  refine GL.v Wln ?_
  refine GL.v Wnq ?_
  refine GL.nil ?_
  refine GE.seq ?_
  refine GC.ifs (fun h1 => ?_) (fun h1 => ?_)
  · -- T
    refine GC.seq ?_
    refine GC.region ?_
    refine GL.v Wag ?_
    refine GL.nil ?_
    refine GE.seq ?_
    refine GC.ret ?_
    refine GE.seq_ret ?_
    -- returns, path T
    refine GE.ret_tmp (L' := L) (.inl rfl) rfl rfl Wsb ?_
    exact ⟨by rw [decide_eq_false (fun e => h1 (by have := congrArg List.length e; simp at this; omega))], rfl⟩
  · -- F
    refine GC.skip ?_
    refine GE.seq ?_
    refine GC.seq ?_
    refine GC.seq ?_
    refine GC.region ?_
    refine GL.v Wag ?_
    refine GL.nil ?_
    refine GE.seq ?_
    refine GC.block ?_
    -- loop 1: carried slots [5]
    have hll : ms.length = ns.length := by omega
    refine GC.loopK (α := Nat) (fun i => i ≤ ms.length ∧ ∀ j (h : j < i) (h1 : j < ms.length) (h2 : j < ns.length), ms[j].kind = ns[j].kind ∧ ms[j].parts = ns[j].parts) (fun i => [(5, .int .i64 i)]) [(2, _), (3, _)] (fun i => blk g2 25 [.slice A ms.length c] :: blk g3 25 [.slice B ns.length d] :: L) (fun i => ms.length - i) 0 Wkp Wsb ⟨Nat.zero_le _, fun _ h => by omega⟩ ?_
    rintro i ⟨hi, hok⟩
    refine GC.seq ?_
    refine GC.seq ?_
    refine GC.region ?_
    refine GL.v Wmv ?_
    refine GL.v Wfa ?_
    refine GL.v Wlb ?_
    refine GL.v Wln ?_
    refine GL.v Wls ?_
    refine GL.nil ?_
    refine GE.seq ?_
    refine GC.ifs (fun h2 => ?_) (fun h2 => ?_)
    · -- FT
      have hil : i < ms.length := by omega
      have him : i < ns.length := by omega
      have hP := hG.parts i hil
      have hQ := hH.parts i him
      have hSi := hS.2 i hil
      have hge : gr ms = gr ns → ms[i].kind = ns[i].kind ∧ ms[i].parts = ns[i].parts := fun e => by
        have h1 : (gr ms)[i]'(by simpa using hil) = ms[i].nd := gr_get _
        have h2 : (gr ns)[i]'(by simpa using him) = ns[i].nd := gr_get _
        have h3 : ms[i].nd = ns[i].nd := by rw [← h1, ← h2]; simp only [e]
        have h4 := congrArg Nd.kind h3
        have h5 := congrArg Nd.parts h3
        exact ⟨h4, h5⟩
      refine GC.skip ?_
      refine GE.seq ?_
      refine GC.seq ?_
      refine GC.block ?_
      refine GC.seq ?_
      refine GC.region_quiet mixed (by kernel_rfl) ?_
      refine GL.v Wfa ?_
      refine GL.v Wlb ?_
      refine GL.v Wmv ?_
      refine GL.v Wix ?_
      refine GL.v Wfa ?_
      refine GL.v Wlef ?_
      refine GL.v Wfa ?_
      refine GL.v Wlb ?_
      refine GL.v Wmv ?_
      refine GL.v Wix ?_
      refine GL.v Wfa ?_
      refine GL.v Wlef ?_
      refine GL.v Wnq ?_
      refine GL.v Wmv ?_
      refine GL.gs (fun h3 => ?_) (fun h3 => ?_)
      · -- FTt
        refine GL.unwant rfl rfl rfl rfl ?_
        refine GL.unwant rfl rfl rfl rfl ?_
        refine GL.unwant rfl rfl rfl rfl ?_
        refine GL.unwant rfl rfl rfl rfl ?_
        refine GL.unwant rfl rfl rfl rfl ?_
        refine GL.unwant rfl rfl rfl rfl ?_
        refine GL.unwant rfl rfl rfl rfl ?_
        refine GL.unwant rfl rfl rfl rfl ?_
        refine GL.unwant rfl rfl rfl rfl ?_
        refine GL.unwant rfl rfl rfl rfl ?_
        refine GL.unwant rfl rfl rfl rfl ?_
        refine GL.unwant rfl rfl rfl rfl ?_
        refine GL.unwant rfl rfl rfl rfl ?_
        refine GL.unwant rfl rfl rfl rfl ?_
        refine GL.v Wpt ?_
        refine GL.nil ?_
        refine GE.seq ?_
        refine GC.cond_true rfl ?_
        refine GC.seq ?_
        refine GC.region ?_
        refine GL.v Wag ?_
        refine GL.nil ?_
        refine GE.seq ?_
        refine GC.ret ?_
        refine GE.block_ret ?_
        refine GE.seq_ret ?_
        refine GE.loop_ret ?_
        refine GE.block_ret ?_
        refine GE.seq_ret ?_
        -- returns, path FTt
        refine GE.ret_tmp (L' := L) (.inl rfl) rfl rfl Wsb ?_
        exact ⟨by rw [decide_eq_false (fun e => h3 (hge e).1)], rfl⟩
      · -- FTf
        refine GL.want rfl rfl ?_
        refine GL.v Wfa ?_
        refine GL.want rfl rfl ?_
        refine GL.v Wlb ?_
        refine GL.want rfl rfl ?_
        refine GL.v Wmv ?_
        refine GL.want rfl rfl ?_
        refine GL.v Wix ?_
        refine GL.want rfl rfl ?_
        refine GL.v Wfa ?_
        refine GL.want rfl rfl ?_
        refine GL.v Wlef1 ?_
        refine GL.want rfl rfl ?_
        refine GL.v Wfa ?_
        refine GL.want rfl rfl ?_
        refine GL.v Wlb ?_
        refine GL.want rfl rfl ?_
        refine GL.v Wmv ?_
        refine GL.want rfl rfl ?_
        refine GL.v Wix ?_
        refine GL.want rfl rfl ?_
        refine GL.v Wfa ?_
        refine GL.want rfl rfl ?_
        refine GL.v Wlef1 ?_
        refine GL.want rfl rfl ?_
        refine GL.callF rfl rfl (equalFormula_spec _ _ _ _ _ Wrd _ _ _ Wrd Wom) ?_
        refine GL.want rfl rfl ?_
        refine GL.v Wnt ?_
        refine GL.v Wpf ?_
        refine GL.nil ?_
        refine GE.seq ?_
        refine GC.ifs (fun h4 => ?_) (fun h4 => ?_)
        · -- FTfT
          refine GC.seq ?_
          refine GC.region ?_
          refine GL.v Wag ?_
          refine GL.nil ?_
          refine GE.seq ?_
          refine GC.ret ?_
          refine GE.block_ret ?_
          refine GE.seq_ret ?_
          refine GE.loop_ret ?_
          refine GE.block_ret ?_
          refine GE.seq_ret ?_
          -- returns, path FTfT
          refine GE.ret_tmp (L' := L) (.inl rfl) rfl rfl Wsb ?_
          exact ⟨by rw [decide_eq_false (fun e => h4 (hge e).2)], rfl⟩
        · -- FTfF
          refine GC.skip ?_
          refine GE.block ?_
          refine GE.seq ?_
          refine GC.region ?_
          refine GL.v Wmv ?_
          refine GL.v Wad ?_
          refine GL.v Wag ?_
          refine GL.nil ?_
          -- round of loop 1, path FTfF
          refine GE.round (i + 1) ⟨by omega, fun j h h1 h2 => ?_⟩ (by omega) Wkp Wsb
          by_cases e : j = i
          · subst e; exact ⟨h3, h4⟩
          · exact hok j (by omega) h1 h2
    · -- FF
      refine GC.exit ?_
      refine GE.seq_exit ?_
      refine GE.loop_exit ?_
      refine GE.block_exit ?_
      refine GE.seq ?_
      refine GC.seq ?_
      refine GC.region ?_
      refine GL.v Wag ?_
      refine GL.nil ?_
      refine GE.seq ?_
      refine GC.ret ?_
      -- returns, path FF
      refine GE.ret_tmp (L' := L) (.inl rfl) rfl rfl Wsb ?_
      exact ⟨by rw [decide_eq_true (List.ext_getElem (by simp; omega) fun j h1 h2 => by rw [gr_get, gr_get]; have := hok j (by simp at h1; omega) (by simpa using h1) (by simpa using h2); unfold NdM.nd; rw [this.1, this.2])], rfl⟩
theorem heldGraph_spec (w0 : World) (L : List Asn) (A : Option Addr) (c n : Nat) (ms : List NdM) (k : Int) (hG : RdG w0 L A c (markG k ms)) (hS : SizeG ms) (hn : n = ms.length) (h0 : 0 ≤ k) (h1 : k ≤ 1000) :
    Tr Try.prog 63 #[.agg #[.slice A n c], .int .i64 k] w0 L (fun v L' => v = .int .i64 (nAt k ms ms.length) ∧ L' = L) := by
  have hkb := nAt_bound (k := k) hS ms.length (Nat.le_refl _)
  refine Tr.enter (args := [.agg #[.slice A n c], .int .i64 k]) Try.func63 Try.ntmps63 rfl rfl ?_
  refine GC.seq ?_
  refine GC.region ?_
  refine GL.box_agg rfl rfl ?_; intro g2
  refine GL.v Wag ?_
  refine GL.nil ?_
  refine GE.seq ?_
  refine GC.seq ?_
  refine GC.region ?_
  refine GL.v Wfa ?_
  refine GL.v Wlb ?_
  refine GL.v Wmv ?_
  refine GL.callF rfl rfl (heldNodeS_spec _ _ _ _ _ _ _ (hG.imp Wim) hS hn h0 h1) ?_
  refine GL.v Wag ?_
  refine GL.nil ?_
  refine GE.seq ?_
  refine GC.seq ?_
  refine GC.seq ?_
  refine GC.region ?_
  refine GL.v Wmv ?_
  refine GL.v Wls ?_
  refine GL.nil ?_
  refine GE.seq ?_
  refine GC.ifs (fun h1 => ?_) (fun h1 => ?_)
  · -- T
    omega
  · -- F
    refine GC.skip ?_
    refine GE.seq ?_
    refine GC.seq ?_
    refine GC.region ?_
    refine GL.v Wmv ?_
    refine GL.v Wag ?_
    refine GL.nil ?_
    refine GE.seq ?_
    refine GC.ret ?_
    -- returns, path F
    refine GE.ret_tmp (L' := L) (.inl rfl) rfl rfl Wsb ?_
    exact ⟨rfl, rfl⟩
theorem sizeG_add {ms ns : List NdM} {k : Int} {ps : List Part} (h : gr ns = addL (gr ms) ⟨k, ps⟩) (hS : SizeG ms) (hl : ms.length ≤ 1048576) (hp : ps.length ≤ 1100000) : SizeG ns := by
  cases hb : addB (gr ms) ⟨k, ps⟩ with
  | true =>
    rw [addL_yes hb] at h
    exact (SizeG.snoc (m := ⟨k, none, 0, ps⟩) hS hl hp).gr (by rw [h, gr_append]; rfl)
  | false =>
    rw [addL_no hb] at h
    have : ns = [] := by have := congrArg List.length h; simp at this; exact this
    subst this
    exact ⟨by simp, fun i hi => by simp at hi⟩
theorem arg_node {W : World} {H : Type} {enc : TypeId × Value → H} {base : Nat} {v : Value} {d : DataW H} {p : List MemPlace} (hval : Value.okWide Try.prog W .any base 120 v) (h : DataW.Trod enc Try.prog W 0 (fun _ => true) true 120 v d p) :
    ∃ k A c ps, v = .agg #[.int .i64 k, .slice A ps.length c] ∧ Rd W [] lpartE A c ps := by
  obtain ⟨fs, hu⟩ := is_struct (P := Try.prog) (t := 120) (i := 0) (r := (3, 0)) (by kernel_rfl)
  obtain ⟨cs, n, x, rfl, h'⟩ := arg_agg hu hval h
  obtain ⟨m, e, hg⟩ := opens_lnode W _ _ _ _ _ h'
  obtain ⟨cl⟩ := cs
  exact ⟨m.kind, m.a, m.c, m.parts, by rw [← show lnodeE.enc m = [.int .i64 m.kind, .slice m.a m.parts.length m.c] from rfl, e], hg⟩
end SG
