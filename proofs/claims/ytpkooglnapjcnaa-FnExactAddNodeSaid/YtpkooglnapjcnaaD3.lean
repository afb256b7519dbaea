/- Contracts: ValidGraph of both. -/
import Derived.Test.YtpkooglnapjcnaaD2
namespace SG
open Go Go.RowKit Go.Proofs
set_option linter.unusedVariables false
set_option linter.unusedSimpArgs false
set_option maxRecDepth 100000

theorem not_good {ms : List NdM} {i : Nat} (hi : i < ms.length) (h : ¬ GoodNd (gr ms) i ms[i].nd) : validG (gr ms) = false :=
  validG_not.2 fun hv => h (by have := hv.2 i (by simpa using hi); rwa [gr_get] at this)
theorem bad_cell {ms : List NdM} {i : Nat} (hi : i < ms.length) (hk : ms[i].kind = 0) (h : 0 < ms[i].parts.length) : validG (gr ms) = false := not_good hi fun hg => by
  rcases hg with hg | hg
  · have := hg.2; simp only [NdM.nd] at this; rw [this] at h; simp at h
  · have := hg.1; simp only [NdM.nd] at this; omega
theorem bad_node {ms : List NdM} {i : Nat} (hi : i < ms.length) (hk : ms[i].kind ≠ 0) (h : ¬ (ValidP ms[i].parts ∧ ReadsOk (gr ms) i ms[i].parts)) : validG (gr ms) = false := not_good hi fun hg => by
  rcases hg with hg | hg
  · exact hk hg.1
  · exact h hg.2
theorem bad_kind {ms : List NdM} {i : Nat} (hi : i < ms.length) (h0 : ms[i].kind ≠ 0) (h1 : ms[i].kind ≠ 1) (h2 : ms[i].kind ≠ 2) : validG (gr ms) = false := not_good hi fun hg => by
  rcases hg with hg | hg
  · exact h0 hg.1
  · rcases hg.1 with h | h
    · exact h1 h
    · exact h2 h
theorem all_good {ms : List NdM} (h : ∀ j (hj : j < ms.length), GoodNd (gr ms) j ms[j].nd) : validG (gr ms) = decide ((ms.length : Int) ≤ 10) := by
  by_cases hl : ms.length ≤ 10
  · have e : decide ((ms.length : Int) ≤ 10) = true := decide_eq_true (by omega)
    rw [e, validG_iff.2 ⟨by simpa using hl, fun i hi => by rw [gr_get]; exact h i (by simpa using hi)⟩]
  · have e : decide ((ms.length : Int) ≤ 10) = false := decide_eq_false (by omega)
    rw [e, validG_not.2 (fun hv => hl (by simpa using hv.1))]

theorem svalidGraph_spec (w0 : World) (L : List Asn) (A : Option Addr) (c : Nat) (ms : List NdM) (hG : RdG w0 L A c ms) (hS : SizeG ms) :
    Tr Try.prog 65 #[.agg #[.slice A ms.length c]] w0 L (fun v L' => v = .bool (validG (gr ms)) ∧ L' = L) := by
  have hN := hG.nodes
  have hSl := hS.1
  refine Tr.enter (args := [.agg #[.slice A ms.length c]]) Try.func65 Try.ntmps65 rfl rfl ?_
  refine GC.seq ?_
  refine GC.region ?_
  refine GL.box_agg rfl rfl ?_; intro g1
  refine GL.v Wag ?_
  refine GL.nil ?_
  refine GE.seq ?_
  refine GC.seq ?_
  refine GC.seq ?_
  refine GC.region ?_
  refine GL.v Wag ?_
  refine GL.nil ?_
  refine GE.seq ?_
  refine GC.block ?_
  -- loop 1: carried slots [3]
  refine GC.loopK (α := Nat) (fun i => i ≤ ms.length ∧ ∀ j (h : j < i) (h' : j < ms.length), GoodNd (gr ms) j ms[j].nd) (fun i => [(3, .int .i64 i)]) [(1, _)] (fun i => blk g1 25 [.slice A ms.length c] :: L) (fun i => ms.length - i) 0 Wkp Wsb ⟨Nat.zero_le _, fun _ h => by omega⟩ ?_
  rintro i ⟨hi, hok⟩
  refine GC.seq ?_
  refine GC.seq ?_
  refine GC.region ?_
  refine GL.v Wmv ?_
  refine GL.v Wfa ?_
  refine GL.v Wlb ?_
  refine GL.v Wln ?_
  refine GL.v Wls ?_
  refine GL.nil ?_
  refine GE.seq ?_
  refine GC.ifs (fun h1 => ?_) (fun h1 => ?_)
  · -- T
    have hil : i < ms.length := by omega
    have hP := hG.parts i hil
    have hSi := hS.2 i hil
    refine GC.skip ?_
    refine GE.seq ?_
    refine GC.seq ?_
    refine GC.block ?_
    refine GC.seq ?_
    refine GC.region ?_
    refine GL.v Wfa ?_
    refine GL.v Wlb ?_
    refine GL.v Wmv ?_
    refine GL.v Wix ?_
    refine GL.v Wle ?_
    refine GL.alloc rfl ?_; intro g4
    refine GL.store_varN rfl rfl rfl Wpk (by rfl) (by rfl) (by rfl) ?_
    refine GL.nil ?_
    refine GE.seq ?_
    refine GC.seq ?_
    refine GC.region ?_
    refine GL.v Wfa ?_
    refine GL.v Wlb ?_
    refine GL.nil ?_
    refine GE.seq ?_
    refine GC.block ?_
    refine GC.seq ?_
    refine GC.region ?_
    refine GL.v Weq ?_
    refine GL.v Wag ?_
    refine GL.nil ?_
    refine GE.seq ?_
    refine GC.ifs (fun h2 => ?_) (fun h2 => ?_)
    · -- TT
      refine GC.seq ?_
      refine GC.region ?_
      refine GL.v Wfa ?_
      refine GL.v Wfa ?_
      refine GL.v Wlb ?_
      refine GL.v Wln ?_
      refine GL.v Wgt ?_
      refine GL.nil ?_
      refine GE.seq ?_
      refine GC.ifs (fun h3 => ?_) (fun h3 => ?_)
      · -- TTT
        refine GC.seq ?_
        refine GC.region ?_
        refine GL.v Wag ?_
        refine GL.nil ?_
        refine GE.seq ?_
        refine GC.ret ?_
        refine GE.block_ret ?_
        refine GE.block_ret ?_
        refine GE.seq_ret ?_
        refine GE.loop_ret ?_
        refine GE.block_ret ?_
        refine GE.seq_ret ?_
        -- returns, path TTT
        refine GE.ret_tmp (L' := L) (.inl rfl) rfl rfl Wsb ?_
        exact ⟨by rw [bad_cell hil h2 (by omega)], rfl⟩
      · -- TTF
        refine GC.skip ?_
        refine GE.block ?_
        refine GE.block ?_
        refine GE.seq ?_
        refine GC.region ?_
        refine GL.v Wmv ?_
        refine GL.v Wad ?_
        refine GL.v Wag ?_
        refine GL.nil ?_
        -- round of loop 1, path TTF
        refine GE.round (i + 1) ⟨by omega, fun j h h' => ?_⟩ (by omega) Wkp Wsb
        by_cases e : j = i
        · subst e; exact .inl ⟨h2, List.length_eq_zero_iff.1 (by simp only [NdM.nd]; omega)⟩
        · exact hok j (by omega) h'
    · -- TF
      refine GC.seq ?_
      refine GC.seq ?_
      refine GC.region ?_
      refine GL.v Weq ?_
      refine GL.v Wag ?_
      refine GL.nil ?_
      refine GE.seq ?_
      refine GC.ifs (fun h3 => ?_) (fun h3 => ?_)
      · -- TFT
        refine GC.skip ?_
        refine GE.seq ?_
        refine GC.cond_true rfl ?_
        refine GC.seq ?_
        refine GC.region ?_
        refine GL.v Wfa ?_
        refine GL.v Wlb1 ?_
        refine GL.callF rfl rfl (validFormula_spec _ _ _ _ _ Wrd Wom) ?_
        refine GL.v Wnt ?_
        refine GL.v Wmv ?_
        refine GL.gs (fun h4 => ?_) (fun h4 => ?_)
        · -- TFTt
          rw [validF_not] at h4
          refine GL.unwant rfl rfl rfl rfl ?_
          refine GL.unwant rfl rfl rfl rfl ?_
          refine GL.unwant rfl rfl rfl rfl ?_
          refine GL.unwant rfl rfl rfl rfl ?_
          refine GL.v Wpt ?_
          refine GL.nil ?_
          refine GE.seq ?_
          refine GC.cond_true rfl ?_
          refine GC.seq ?_
          refine GC.region ?_
          refine GL.v Wag ?_
          refine GL.nil ?_
          refine GE.seq ?_
          refine GC.ret ?_
          refine GE.block_ret ?_
          refine GE.block_ret ?_
          refine GE.seq_ret ?_
          refine GE.loop_ret ?_
          refine GE.block_ret ?_
          refine GE.seq_ret ?_
          -- returns, path TFTt
          refine GE.ret_tmp (L' := L) (.inl rfl) rfl rfl Wsb ?_
          exact ⟨by rw [bad_node hil (by omega) (fun h => h4 h.1)], rfl⟩
        · -- TFTf
          rw [validF_iff] at h4
          refine GL.want rfl rfl ?_
          refine GL.v Wlba ?_
          refine GL.want rfl rfl ?_
          refine GL.v Wmv ?_
          refine GL.want rfl rfl ?_
          refine GL.callF rfl rfl (goodReads_spec _ _ _ _ _ (RdG.imp (by assumption) Wim) _ Wom Wom) ?_
          refine GL.want rfl rfl ?_
          refine GL.v Wnt ?_
          refine GL.v Wpf ?_
          refine GL.nil ?_
          refine GE.seq ?_
          refine GC.ifs (fun h5 => ?_) (fun h5 => ?_)
          · -- TFTfT
            refine GC.seq ?_
            refine GC.region ?_
            refine GL.v Wag ?_
            refine GL.nil ?_
            refine GE.seq ?_
            refine GC.ret ?_
            refine GE.block_ret ?_
            refine GE.block_ret ?_
            refine GE.seq_ret ?_
            refine GE.loop_ret ?_
            refine GE.block_ret ?_
            refine GE.seq_ret ?_
            -- returns, path TFTfT
            refine GE.ret_tmp (L' := L) (.inl rfl) rfl rfl Wsb ?_
            exact ⟨by rw [bad_node hil (by omega) (fun h => readsOkB_not.1 h5 h.2)], rfl⟩
          · -- TFTfF
            refine GC.skip ?_
            refine GE.block ?_
            refine GE.block ?_
            refine GE.seq ?_
            refine GC.region ?_
            refine GL.v Wmv ?_
            refine GL.v Wad ?_
            refine GL.v Wag ?_
            refine GL.nil ?_
            -- round of loop 1, path TFTfF
            refine GE.round (i + 1) ⟨by omega, fun j h h' => ?_⟩ (by omega) Wkp Wsb
            by_cases e : j = i
            · subst e; exact .inr ⟨.inl h3, h4, readsOkB_iff.1 h5⟩
            · exact hok j (by omega) h'
      · -- TFF
        refine GC.region ?_
        refine GL.v Weq ?_
        refine GL.v Wag ?_
        refine GL.nil ?_
        refine GE.seq ?_
        refine GC.ifs (fun h4 => ?_) (fun h4 => ?_)
        · -- TFFT
          refine GC.seq ?_
          refine GC.region ?_
          refine GL.v Wfa ?_
          refine GL.v Wlb1 ?_
          refine GL.callF rfl rfl (validFormula_spec _ _ _ _ _ Wrd Wom) ?_
          refine GL.v Wnt ?_
          refine GL.v Wmv ?_
          refine GL.gs (fun h5 => ?_) (fun h5 => ?_)
          · -- TFFTt
            rw [validF_not] at h5
            refine GL.unwant rfl rfl rfl rfl ?_
            refine GL.unwant rfl rfl rfl rfl ?_
            refine GL.unwant rfl rfl rfl rfl ?_
            refine GL.unwant rfl rfl rfl rfl ?_
            refine GL.v Wpt ?_
            refine GL.nil ?_
            refine GE.seq ?_
            refine GC.cond_true rfl ?_
            refine GC.seq ?_
            refine GC.region ?_
            refine GL.v Wag ?_
            refine GL.nil ?_
            refine GE.seq ?_
            refine GC.ret ?_
            refine GE.block_ret ?_
            refine GE.block_ret ?_
            refine GE.seq_ret ?_
            refine GE.loop_ret ?_
            refine GE.block_ret ?_
            refine GE.seq_ret ?_
            -- returns, path TFFTt
            refine GE.ret_tmp (L' := L) (.inl rfl) rfl rfl Wsb ?_
            exact ⟨by rw [bad_node hil (by omega) (fun h => h5 h.1)], rfl⟩
          · -- TFFTf
            rw [validF_iff] at h5
            refine GL.want rfl rfl ?_
            refine GL.v Wlba ?_
            refine GL.want rfl rfl ?_
            refine GL.v Wmv ?_
            refine GL.want rfl rfl ?_
            refine GL.callF rfl rfl (goodReads_spec _ _ _ _ _ (RdG.imp (by assumption) Wim) _ Wom Wom) ?_
            refine GL.want rfl rfl ?_
            refine GL.v Wnt ?_
            refine GL.v Wpf ?_
            refine GL.nil ?_
            refine GE.seq ?_
            refine GC.ifs (fun h6 => ?_) (fun h6 => ?_)
            · -- TFFTfT
              refine GC.seq ?_
              refine GC.region ?_
              refine GL.v Wag ?_
              refine GL.nil ?_
              refine GE.seq ?_
              refine GC.ret ?_
              refine GE.block_ret ?_
              refine GE.block_ret ?_
              refine GE.seq_ret ?_
              refine GE.loop_ret ?_
              refine GE.block_ret ?_
              refine GE.seq_ret ?_
              -- returns, path TFFTfT
              refine GE.ret_tmp (L' := L) (.inl rfl) rfl rfl Wsb ?_
              exact ⟨by rw [bad_node hil (by omega) (fun h => readsOkB_not.1 h6 h.2)], rfl⟩
            · -- TFFTfF
              refine GC.skip ?_
              refine GE.block ?_
              refine GE.block ?_
              refine GE.seq ?_
              refine GC.region ?_
              refine GL.v Wmv ?_
              refine GL.v Wad ?_
              refine GL.v Wag ?_
              refine GL.nil ?_
              -- round of loop 1, path TFFTfF
              refine GE.round (i + 1) ⟨by omega, fun j h h' => ?_⟩ (by omega) Wkp Wsb
              by_cases e : j = i
              · subst e; exact .inr ⟨.inr h4, h5, readsOkB_iff.1 h6⟩
              · exact hok j (by omega) h'
        · -- TFFF
          refine GC.seq ?_
          refine GC.region ?_
          refine GL.v Wag ?_
          refine GL.nil ?_
          refine GE.seq ?_
          refine GC.ret ?_
          refine GE.block_ret ?_
          refine GE.block_ret ?_
          refine GE.seq_ret ?_
          refine GE.loop_ret ?_
          refine GE.block_ret ?_
          refine GE.seq_ret ?_
          -- returns, path TFFF
          refine GE.ret_tmp (L' := L) (.inl rfl) rfl rfl Wsb ?_
          exact ⟨by rw [bad_kind hil h2 h3 h4], rfl⟩
  · -- F
    refine GC.exit ?_
    refine GE.seq_exit ?_
    refine GE.loop_exit ?_
    refine GE.block_exit ?_
    refine GE.seq ?_
    refine GC.seq ?_
    refine GC.region ?_
    refine GL.v Wfa ?_
    refine GL.v Wlb ?_
    refine GL.v Wln ?_
    refine GL.v Wlq ?_
    refine GL.v Wag ?_
    refine GL.nil ?_
    refine GE.seq ?_
    refine GC.ret ?_
    -- returns, path F
    refine GE.ret_tmp (L' := L) (.inl rfl) rfl rfl Wsb ?_
    exact ⟨by rw [all_good (fun j h => hok j (by omega) h)], rfl⟩
theorem iValidGraph_spec (w0 : World) (L : List Asn) (A : Option Addr) (c : Nat) (ms : List NdM) (hG : RdG w0 L A c ms) (hl : ms.length ≤ 1100000) :
    Tr Try.prog 36 #[.agg #[.slice A ms.length c]] w0 L (fun v L' => v = .bool (validG (gr ms)) ∧ L' = L) := by
  have hN := hG.nodes
  refine Tr.enter (args := [.agg #[.slice A ms.length c]]) Try.func36 Try.ntmps36 rfl rfl ?_
  refine GC.seq ?_
  refine GC.region ?_
  refine GL.box_agg rfl rfl ?_; intro g1
  refine GL.v Wag ?_
  refine GL.nil ?_
  refine GE.seq ?_
  refine GC.seq ?_
  refine GC.seq ?_
  refine GC.region ?_
  refine GL.v Wfa ?_
  refine GL.v Wlb ?_
  refine GL.v Wln ?_
  refine GL.v Wmv ?_
  refine GL.nil ?_
  refine GE.seq ?_
  refine GC.block ?_
  -- loop 1: carried slots [10]
  refine GC.loopK (α := Nat) (fun i => i ≤ ms.length ∧ ∀ j (h : j < i) (h' : j < ms.length), GoodNd (gr ms) j ms[j].nd) (fun i => [(10, .int .i64 i)]) [(1, _), (8, _), (9, _)] (fun i => blk g1 25 [.slice A ms.length c] :: L) (fun i => ms.length - i) 0 Wkp Wsb ⟨Nat.zero_le _, fun _ h => by omega⟩ ?_
  rintro i ⟨hi, hok⟩
  refine GC.seq ?_
  refine GC.region ?_
  refine GL.v Wls ?_
  refine GL.nil ?_
  refine GE.seq ?_
  refine GC.seq ?_
  refine GC.ifs (fun h1 => ?_) (fun h1 => ?_)
  · -- T
    have hil : i < ms.length := by omega
    have hP := hG.parts i hil
    refine GC.skip ?_
    refine GE.seq ?_
    refine GC.seq ?_
    refine GC.block ?_
    refine GC.seq ?_
    refine GC.region ?_
    refine GL.v Wmv ?_
    refine GL.v Wix ?_
    refine GL.v Wle ?_
    refine GL.alloc rfl ?_; intro g4
    refine GL.v Wag ?_
    refine GL.store_varN rfl rfl rfl Wpk (by rfl) (by rfl) (by rfl) ?_
    refine GL.nil ?_
    refine GE.seq ?_
    refine GC.seq ?_
    refine GC.region ?_
    refine GL.v Wfa ?_
    refine GL.v Wlb ?_
    refine GL.nil ?_
    refine GE.seq ?_
    refine GC.block ?_
    refine GC.seq ?_
    refine GC.region ?_
    refine GL.v Weq ?_
    refine GL.v Wag ?_
    refine GL.nil ?_
    refine GE.seq ?_
    refine GC.ifs (fun h2 => ?_) (fun h2 => ?_)
    · -- TT
      refine GC.seq ?_
      refine GC.region ?_
      refine GL.v Wfa ?_
      refine GL.v Wfa ?_
      refine GL.v Wlb ?_
      refine GL.v Wln ?_
      refine GL.v Wgt ?_
      refine GL.nil ?_
      refine GE.seq ?_
      refine GC.ifs (fun h3 => ?_) (fun h3 => ?_)
      · -- TTT
        refine GC.seq ?_
        refine GC.region ?_
        refine GL.v Wag ?_
        refine GL.nil ?_
        refine GE.seq ?_
        refine GC.ret ?_
        refine GE.block_ret ?_
        refine GE.block_ret ?_
        refine GE.seq_ret ?_
        refine GE.loop_ret ?_
        refine GE.block_ret ?_
        refine GE.seq_ret ?_
        -- returns, path TTT
        refine GE.ret_tmp (L' := L) (.inl rfl) rfl rfl Wsb ?_
        exact ⟨by rw [bad_cell hil h2 (by omega)], rfl⟩
      · -- TTF
        refine GC.skip ?_
        refine GE.block ?_
        refine GE.block ?_
        refine GE.seq ?_
        refine GC.region ?_
        refine GL.v Wad ?_
        refine GL.v Wmv ?_
        refine GL.nil ?_
        -- round of loop 1, path TTF
        refine GE.round (i + 1) ⟨by omega, fun j h h' => ?_⟩ (by omega) Wkp Wsb
        by_cases e : j = i
        · subst e; exact .inl ⟨h2, List.length_eq_zero_iff.1 (by simp only [NdM.nd]; omega)⟩
        · exact hok j (by omega) h'
    · -- TF
      refine GC.seq ?_
      refine GC.seq ?_
      refine GC.region ?_
      refine GL.v Weq ?_
      refine GL.v Wag ?_
      refine GL.nil ?_
      refine GE.seq ?_
      refine GC.ifs (fun h3 => ?_) (fun h3 => ?_)
      · -- TFT
        refine GC.skip ?_
        refine GE.seq ?_
        refine GC.cond_true rfl ?_
        refine GC.seq ?_
        refine GC.seq ?_
        refine GC.region ?_
        refine GL.v Wfa ?_
        refine GL.v Wlb1 ?_
        refine GL.callF rfl rfl (ValidFormula_spec _ _ _ _ _ Wrd) ?_
        refine GL.v Wnt ?_
        refine GL.nil ?_
        refine GE.seq ?_
        refine GC.ifs (fun h4 => ?_) (fun h4 => ?_)
        · -- TFTT
          refine GC.seq ?_
          refine GC.region ?_
          refine GL.v Wag ?_
          refine GL.nil ?_
          refine GE.seq ?_
          refine GC.ret ?_
          refine GE.seq_ret ?_
          refine GE.block_ret ?_
          refine GE.block_ret ?_
          refine GE.seq_ret ?_
          refine GE.loop_ret ?_
          refine GE.block_ret ?_
          refine GE.seq_ret ?_
          -- returns, path TFTT
          refine GE.ret_tmp (L' := L) (.inl rfl) rfl rfl Wsb ?_
          exact ⟨by rw [bad_node hil (by omega) (fun h => validF_not.1 h4 h.1)], rfl⟩
        · -- TFTF
          rw [validF_iff] at h4
          have hf := h4.fit
          have hl12 := h4.2.1
          have hml := mayL_length ms[i].parts
          refine GC.skip ?_
          refine GE.seq ?_
          refine GC.seq ?_
          refine GC.region ?_
          refine GL.v Wfa ?_
          refine GL.v Wlb1 ?_
          refine GL.call rfl rfl (mayRead_spec _ _ _ _ _ Wrd Wom (by assumption)) ?_
          rintro _ _ ⟨B33, rfl, rfl⟩
          refine GL.v Wln ?_
          refine GL.v Wmv ?_
          refine GL.nil ?_
          refine GE.seq ?_
          refine GC.block ?_
          -- loop 2: carried slots [35]
          refine GC.loopK (α := Nat) (fun k => k ≤ (mayL ms[i].parts).length ∧ ∀ k' (h : k' < k) (h' : k' < (mayL ms[i].parts).length), (mayL ms[i].parts)[k'] < i ∧ kindAt (gr ms) (mayL ms[i].parts)[k'] ≠ 2) (fun k => [(35, .int .i64 k)]) [(1, _), (3, _), (8, _), (9, _), (10, _), (33, _), (34, _)] (fun k => row intE B33 (mayL ms[i].parts).length (mayL ms[i].parts) :: blk g1 25 [.slice A ms.length c] :: L) (fun k => (mayL ms[i].parts).length - k) 0 Wkp Wsb ⟨Nat.zero_le _, fun _ h => by omega⟩ ?_
          rintro k ⟨hk, hokk⟩
          refine GC.seq ?_
          refine GC.region ?_
          refine GL.v Wls ?_
          refine GL.nil ?_
          refine GE.seq ?_
          refine GC.seq ?_
          refine GC.ifs (fun h5 => ?_) (fun h5 => ?_)
          · -- TFTFT
            have hkl : k < (mayL ms[i].parts).length := by omega
            have hk0 := (mem_mayL.1 (List.getElem_mem hkl)).1
            refine GC.skip ?_
            refine GE.seq ?_
            refine GC.seq ?_
            refine GC.block ?_
            refine GC.seq ?_
            refine GC.region ?_
            refine GL.v Wix ?_
            refine GL.v Wle ?_
            refine GL.v Wag ?_
            refine GL.nil ?_
            refine GE.seq ?_
            refine GC.seq ?_
            refine GC.region ?_
            refine GL.v Wmv ?_
            refine GL.v Wmv ?_
            refine GL.v Wgq ?_
            refine GL.v Wmv ?_
            refine GL.gs (fun h6 => ?_) (fun h6 => ?_)
            · -- TFTFTt
              refine GL.unwant rfl rfl rfl rfl ?_
              refine GL.unwant rfl rfl rfl rfl ?_
              refine GL.unwant rfl rfl rfl rfl ?_
              refine GL.unwant rfl rfl rfl rfl ?_
              refine GL.unwant rfl rfl rfl rfl ?_
              refine GL.unwant rfl rfl rfl rfl ?_
              refine GL.unwant rfl rfl rfl rfl ?_
              refine GL.v Wpt ?_
              refine GL.nil ?_
              refine GE.seq ?_
              refine GC.cond_true rfl ?_
              refine GC.seq ?_
              refine GC.region ?_
              refine GL.v Wag ?_
              refine GL.nil ?_
              refine GE.seq ?_
              refine GC.ret ?_
              refine GE.block_ret ?_
              refine GE.seq_ret ?_
              refine GE.loop_ret ?_
              refine GE.block_ret ?_
              refine GE.block_ret ?_
              refine GE.block_ret ?_
              refine GE.seq_ret ?_
              refine GE.loop_ret ?_
              refine GE.block_ret ?_
              refine GE.seq_ret ?_
              -- returns, path TFTFTt
              refine GE.ret_tmp (L' := L) (.inl rfl) rfl rfl Wsb ?_
              exact ⟨by rw [bad_node hil (by omega) (fun h => by have := (h.2 _ (List.getElem_mem hkl)).1; omega)], rfl⟩
            · -- TFTFTf
              refine GL.want rfl rfl ?_
              refine GL.v Wfa ?_
              refine GL.want rfl rfl ?_
              refine GL.v Wlb ?_
              refine GL.want rfl rfl ?_
              refine GL.v Wmv ?_
              refine GL.want rfl rfl ?_
              refine GL.v Wix ?_
              refine GL.want rfl rfl ?_
              refine GL.v Wfa ?_
              refine GL.want rfl rfl ?_
              refine GL.v Wlef ?_
              refine GL.want rfl rfl ?_
              refine GL.v Weq ?_
              refine GL.v Wpf ?_
              refine GL.nil ?_
              refine GE.seq ?_
              refine GC.ifs (fun h7 => ?_) (fun h7 => ?_)
              · -- TFTFTfT
                refine GC.seq ?_
                refine GC.region ?_
                refine GL.v Wag ?_
                refine GL.nil ?_
                refine GE.seq ?_
                refine GC.ret ?_
                refine GE.block_ret ?_
                refine GE.seq_ret ?_
                refine GE.loop_ret ?_
                refine GE.block_ret ?_
                refine GE.block_ret ?_
                refine GE.block_ret ?_
                refine GE.seq_ret ?_
                refine GE.loop_ret ?_
                refine GE.block_ret ?_
                refine GE.seq_ret ?_
                -- returns, path TFTFTfT
                refine GE.ret_tmp (L' := L) (.inl rfl) rfl rfl Wsb ?_
                exact ⟨by rw [bad_node hil (by omega) (fun h => (h.2 _ (List.getElem_mem hkl)).2 (by rw [kindAt_gr (by omega)]; exact h7))], rfl⟩
              · -- TFTFTfF
                refine GC.skip ?_
                refine GE.block ?_
                refine GE.seq ?_
                refine GC.region ?_
                refine GL.v Wad ?_
                refine GL.v Wmv ?_
                refine GL.nil ?_
                -- round of loop 2, path TFTFTfF
                refine GE.round (k + 1) ⟨by omega, fun k' h h' => ?_⟩ (by omega) Wkp Wsb
                by_cases e : k' = k
                · subst e; exact ⟨by omega, by rw [kindAt_gr (by omega)]; exact h7⟩
                · exact hokk k' (by omega) h'
          · -- TFTFF
            refine GC.exit ?_
            refine GE.seq_exit ?_
            refine GE.loop_exit ?_
            refine GE.block_exit ?_
            refine GE.block ?_
            refine GE.block ?_
            refine GE.seq ?_
            refine GC.region ?_
            refine GL.v Wad ?_
            refine GL.v Wmv ?_
            refine GL.nil ?_
            -- round of loop 1, path TFTFF
            refine GE.round (i + 1) ⟨by omega, fun j h h' => ?_⟩ (by omega) Wkp Wsb
            by_cases e : j = i
            · subst e; exact .inr ⟨.inl h3, h4, fun n hn => by obtain ⟨k', h', rfl⟩ := List.mem_iff_getElem.1 hn; exact hokk k' (by simp only [NdM.nd] at h'; omega) h'⟩
            · exact hok j (by omega) h'
      · -- TFF
        refine GC.region ?_
        refine GL.v Weq ?_
        refine GL.v Wag ?_
        refine GL.nil ?_
        refine GE.seq ?_
        refine GC.ifs (fun h4 => ?_) (fun h4 => ?_)
        · -- TFFT
          refine GC.seq ?_
          refine GC.seq ?_
          refine GC.region ?_
          refine GL.v Wfa ?_
          refine GL.v Wlb1 ?_
          refine GL.callF rfl rfl (ValidFormula_spec _ _ _ _ _ Wrd) ?_
          refine GL.v Wnt ?_
          refine GL.nil ?_
          refine GE.seq ?_
          refine GC.ifs (fun h5 => ?_) (fun h5 => ?_)
          · -- TFFTT
            refine GC.seq ?_
            refine GC.region ?_
            refine GL.v Wag ?_
            refine GL.nil ?_
            refine GE.seq ?_
            refine GC.ret ?_
            refine GE.seq_ret ?_
            refine GE.block_ret ?_
            refine GE.block_ret ?_
            refine GE.seq_ret ?_
            refine GE.loop_ret ?_
            refine GE.block_ret ?_
            refine GE.seq_ret ?_
            -- returns, path TFFTT
            refine GE.ret_tmp (L' := L) (.inl rfl) rfl rfl Wsb ?_
            exact ⟨by rw [bad_node hil (by omega) (fun h => validF_not.1 h5 h.1)], rfl⟩
          · -- TFFTF
            rw [validF_iff] at h5
            have hf := h5.fit
            have hl12 := h5.2.1
            have hml := mayL_length ms[i].parts
            refine GC.skip ?_
            refine GE.seq ?_
            refine GC.seq ?_
            refine GC.region ?_
            refine GL.v Wfa ?_
            refine GL.v Wlb1 ?_
            refine GL.call rfl rfl (mayRead_spec _ _ _ _ _ Wrd Wom (by assumption)) ?_
            rintro _ _ ⟨B33, rfl, rfl⟩
            refine GL.v Wln ?_
            refine GL.v Wmv ?_
            refine GL.nil ?_
            refine GE.seq ?_
            refine GC.block ?_
            -- loop 2: carried slots [35]
            refine GC.loopK (α := Nat) (fun k => k ≤ (mayL ms[i].parts).length ∧ ∀ k' (h : k' < k) (h' : k' < (mayL ms[i].parts).length), (mayL ms[i].parts)[k'] < i ∧ kindAt (gr ms) (mayL ms[i].parts)[k'] ≠ 2) (fun k => [(35, .int .i64 k)]) [(1, _), (3, _), (8, _), (9, _), (10, _), (33, _), (34, _)] (fun k => row intE B33 (mayL ms[i].parts).length (mayL ms[i].parts) :: blk g1 25 [.slice A ms.length c] :: L) (fun k => (mayL ms[i].parts).length - k) 0 Wkp Wsb ⟨Nat.zero_le _, fun _ h => by omega⟩ ?_
            rintro k ⟨hk, hokk⟩
            refine GC.seq ?_
            refine GC.region ?_
            refine GL.v Wls ?_
            refine GL.nil ?_
            refine GE.seq ?_
            refine GC.seq ?_
            refine GC.ifs (fun h6 => ?_) (fun h6 => ?_)
            · -- TFFTFT
              have hkl : k < (mayL ms[i].parts).length := by omega
              have hk0 := (mem_mayL.1 (List.getElem_mem hkl)).1
              refine GC.skip ?_
              refine GE.seq ?_
              refine GC.seq ?_
              refine GC.block ?_
              refine GC.seq ?_
              refine GC.region ?_
              refine GL.v Wix ?_
              refine GL.v Wle ?_
              refine GL.v Wag ?_
              refine GL.nil ?_
              refine GE.seq ?_
              refine GC.seq ?_
              refine GC.region ?_
              refine GL.v Wmv ?_
              refine GL.v Wmv ?_
              refine GL.v Wgq ?_
              refine GL.v Wmv ?_
              refine GL.gs (fun h7 => ?_) (fun h7 => ?_)
              · -- TFFTFTt
                refine GL.unwant rfl rfl rfl rfl ?_
                refine GL.unwant rfl rfl rfl rfl ?_
                refine GL.unwant rfl rfl rfl rfl ?_
                refine GL.unwant rfl rfl rfl rfl ?_
                refine GL.unwant rfl rfl rfl rfl ?_
                refine GL.unwant rfl rfl rfl rfl ?_
                refine GL.unwant rfl rfl rfl rfl ?_
                refine GL.v Wpt ?_
                refine GL.nil ?_
                refine GE.seq ?_
                refine GC.cond_true rfl ?_
                refine GC.seq ?_
                refine GC.region ?_
                refine GL.v Wag ?_
                refine GL.nil ?_
                refine GE.seq ?_
                refine GC.ret ?_
                refine GE.block_ret ?_
                refine GE.seq_ret ?_
                refine GE.loop_ret ?_
                refine GE.block_ret ?_
                refine GE.block_ret ?_
                refine GE.block_ret ?_
                refine GE.seq_ret ?_
                refine GE.loop_ret ?_
                refine GE.block_ret ?_
                refine GE.seq_ret ?_
                -- returns, path TFFTFTt
                refine GE.ret_tmp (L' := L) (.inl rfl) rfl rfl Wsb ?_
                exact ⟨by rw [bad_node hil (by omega) (fun h => by have := (h.2 _ (List.getElem_mem hkl)).1; omega)], rfl⟩
              · -- TFFTFTf
                refine GL.want rfl rfl ?_
                refine GL.v Wfa ?_
                refine GL.want rfl rfl ?_
                refine GL.v Wlb ?_
                refine GL.want rfl rfl ?_
                refine GL.v Wmv ?_
                refine GL.want rfl rfl ?_
                refine GL.v Wix ?_
                refine GL.want rfl rfl ?_
                refine GL.v Wfa ?_
                refine GL.want rfl rfl ?_
                refine GL.v Wlef ?_
                refine GL.want rfl rfl ?_
                refine GL.v Weq ?_
                refine GL.v Wpf ?_
                refine GL.nil ?_
                refine GE.seq ?_
                refine GC.ifs (fun h8 => ?_) (fun h8 => ?_)
                · -- TFFTFTfT
                  refine GC.seq ?_
                  refine GC.region ?_
                  refine GL.v Wag ?_
                  refine GL.nil ?_
                  refine GE.seq ?_
                  refine GC.ret ?_
                  refine GE.block_ret ?_
                  refine GE.seq_ret ?_
                  refine GE.loop_ret ?_
                  refine GE.block_ret ?_
                  refine GE.block_ret ?_
                  refine GE.block_ret ?_
                  refine GE.seq_ret ?_
                  refine GE.loop_ret ?_
                  refine GE.block_ret ?_
                  refine GE.seq_ret ?_
                  -- returns, path TFFTFTfT
                  refine GE.ret_tmp (L' := L) (.inl rfl) rfl rfl Wsb ?_
                  exact ⟨by rw [bad_node hil (by omega) (fun h => (h.2 _ (List.getElem_mem hkl)).2 (by rw [kindAt_gr (by omega)]; exact h8))], rfl⟩
                · -- TFFTFTfF
                  refine GC.skip ?_
                  refine GE.block ?_
                  refine GE.seq ?_
                  refine GC.region ?_
                  refine GL.v Wad ?_
                  refine GL.v Wmv ?_
                  refine GL.nil ?_
                  -- round of loop 2, path TFFTFTfF
                  refine GE.round (k + 1) ⟨by omega, fun k' h h' => ?_⟩ (by omega) Wkp Wsb
                  by_cases e : k' = k
                  · subst e; exact ⟨by omega, by rw [kindAt_gr (by omega)]; exact h8⟩
                  · exact hokk k' (by omega) h'
            · -- TFFTFF
              refine GC.exit ?_
              refine GE.seq_exit ?_
              refine GE.loop_exit ?_
              refine GE.block_exit ?_
              refine GE.block ?_
              refine GE.block ?_
              refine GE.seq ?_
              refine GC.region ?_
              refine GL.v Wad ?_
              refine GL.v Wmv ?_
              refine GL.nil ?_
              -- round of loop 1, path TFFTFF
              refine GE.round (i + 1) ⟨by omega, fun j h h' => ?_⟩ (by omega) Wkp Wsb
              by_cases e : j = i
              · subst e; exact .inr ⟨.inr h4, h5, fun n hn => by obtain ⟨k', h', rfl⟩ := List.mem_iff_getElem.1 hn; exact hokk k' (by simp only [NdM.nd] at h'; omega) h'⟩
              · exact hok j (by omega) h'
        · -- TFFF
          refine GC.seq ?_
          refine GC.region ?_
          refine GL.v Wag ?_
          refine GL.nil ?_
          refine GE.seq ?_
          refine GC.ret ?_
          refine GE.block_ret ?_
          refine GE.block_ret ?_
          refine GE.seq_ret ?_
          refine GE.loop_ret ?_
          refine GE.block_ret ?_
          refine GE.seq_ret ?_
          -- returns, path TFFF
          refine GE.ret_tmp (L' := L) (.inl rfl) rfl rfl Wsb ?_
          exact ⟨by rw [bad_kind hil h2 h3 h4], rfl⟩
  · -- F
    refine GC.exit ?_
    refine GE.seq_exit ?_
    refine GE.loop_exit ?_
    refine GE.block_exit ?_
    refine GE.seq ?_
    refine GC.seq ?_
    refine GC.region ?_
    refine GL.v Wfa ?_
    refine GL.v Wlb ?_
    refine GL.v Wln ?_
    refine GL.v Wlq ?_
    refine GL.v Wag ?_
    refine GL.nil ?_
    refine GE.seq ?_
    refine GC.ret ?_
    -- returns, path F
    refine GE.ret_tmp (L' := L) (.inl rfl) rfl rfl Wsb ?_
    exact ⟨by rw [all_good (fun j h => hok j (by omega) h)], rfl⟩
end SG
