/- Contracts: values for cells. -/
import Derived.Test.YtllepoepfkobfaaDA
import Derived.Test.YtllepoepfkobfaaD4
namespace SG
open Go Go.RowKit Go.Proofs
set_option linter.unusedVariables false
set_option linter.unusedSimpArgs false
set_option maxRecDepth 100000
theorem size_spec (w0 : World) (L : List Asn) (A : Option Addr) (n c : Nat) : Tr Try.prog 62 #[.agg #[.slice A n c]] w0 L (fun v L' => v = .int .i64 n ∧ L' = L) := by
  refine Tr.enter (args := [.agg #[.slice A n c]]) Try.func62 Try.ntmps62 rfl rfl ?_
  refine GC.seq ?_
  refine GC.region ?_
  refine GL.box_agg rfl rfl ?_; intro g1
  refine GL.v Wag ?_
  refine GL.nil ?_
  refine GE.seq ?_
  refine GC.seq ?_
  refine GC.region ?_
  refine GL.v Wfa ?_
  refine GL.v Wlb ?_
  refine GL.v Wln ?_
  refine GL.v Wag ?_
  refine GL.nil ?_
  refine GE.seq ?_
  refine GC.ret ?_
  -- returns, path 
  refine GE.ret_tmp (L' := L) (.inl rfl) rfl rfl Wsb ?_
  exact ⟨rfl, rfl⟩
theorem has_spec (w0 : World) (L : List Asn) (A : Option Addr) (n c : Nat) (k : Int) (hn : n ≤ 1100000) : Tr Try.prog 54 #[.agg #[.slice A n c], .int .i64 k] w0 L (fun v L' => v = .bool (inB k 0 ((n : Int) - 1)) ∧ L' = L) := by
  refine Tr.enter (args := [.agg #[.slice A n c], .int .i64 k]) Try.func54 Try.ntmps54 rfl rfl ?_
  refine GC.seq ?_
  refine GC.region ?_
  refine GL.box_agg rfl rfl ?_; intro g2
  refine GL.v Wag ?_
  refine GL.nil ?_
  refine GE.seq ?_
  refine GC.seq ?_
  refine GC.region ?_
  refine GL.v Wmv ?_
  refine GL.v Wfa ?_
  refine GL.v Wlb ?_
  refine GL.v Wln ?_
  refine GL.v Wsu ?_
  refine GL.callF rfl rfl (in_spec _ _ _ _ _) ?_
  refine GL.v Wag ?_
  refine GL.nil ?_
  refine GE.seq ?_
  refine GC.ret ?_
  -- returns, path 
  refine GE.ret_tmp (L' := L) (.inl rfl) rfl rfl Wsb ?_
  exact ⟨rfl, rfl⟩
theorem cell_spec (w0 : World) (L : List Asn) (A : Option Addr) (c : Nat) (ms : List NdM) (hG : RdG w0 L A c ms) (k : Int) (hn : ms.length ≤ 1100000) : Tr Try.prog 52 #[.agg #[.slice A ms.length c], .int .i64 k] w0 L (fun v L' => v = .bool (cellB (gr ms) k) ∧ L' = L) := by
  have hN := hG.nodes
  refine Tr.enter (args := [.agg #[.slice A ms.length c], .int .i64 k]) Try.func52 Try.ntmps52 rfl rfl ?_
  refine GC.seq ?_
  refine GC.region ?_
  refine GL.box_agg rfl rfl ?_; intro g2
  refine GL.v Wag ?_
  refine GL.nil ?_
  refine GE.seq ?_
  refine GC.seq ?_
  refine GC.region ?_
  refine GL.v Wlba ?_
  refine GL.v Wmv ?_
  refine GL.callF rfl rfl (has_spec _ _ _ _ _ _ (by first | omega | exact SizeG.le (by assumption))) ?_
  refine GL.v Wmv ?_
  refine GL.gs (fun h1 => ?_) (fun h1 => ?_)
  · -- t
    have hk := inB_iff.1 h1
    refine GL.want rfl rfl ?_
    refine GL.v Wfa ?_
    refine GL.want rfl rfl ?_
    refine GL.v Wlb ?_
    refine GL.want rfl rfl ?_
    refine GL.v Wmv ?_
    refine GL.want rfl rfl ?_
    refine GL.v Wix ?_
    refine GL.want rfl rfl ?_
    refine GL.v Wfa ?_
    refine GL.want rfl rfl ?_
    refine GL.v Wlef ?_
    refine GL.want rfl rfl ?_
    refine GL.v Weq ?_
    refine GL.v Wpt ?_
    refine GL.v Wag ?_
    refine GL.nil ?_
    refine GE.seq ?_
    refine GC.ret ?_
    -- returns, path t
    refine GE.ret_tmp (L' := L) (.inl rfl) rfl rfl Wsb ?_
    exact ⟨by simp only [cellB, gr_length]; rw [h1, kindAt_gr (by omega)]; rfl, rfl⟩
  · -- f
    refine GL.unwant rfl rfl rfl rfl ?_
    refine GL.unwant rfl rfl rfl rfl ?_
    refine GL.unwant rfl rfl rfl rfl ?_
    refine GL.unwant rfl rfl rfl rfl ?_
    refine GL.unwant rfl rfl rfl rfl ?_
    refine GL.unwant rfl rfl rfl rfl ?_
    refine GL.unwant rfl rfl rfl rfl ?_
    refine GL.v Wpf ?_
    refine GL.v Wag ?_
    refine GL.nil ?_
    refine GE.seq ?_
    refine GC.ret ?_
    -- returns, path f
    refine GE.ret_tmp (L' := L) (.inl rfl) rfl rfl Wsb ?_
    exact ⟨by simp only [cellB, gr_length]; rw [h1]; rfl, rfl⟩
theorem cellB_eq {g : List Nd} {i : Nat} (h : i < g.length) : cellB g i = decide (g[i].kind = 0) := by
  unfold cellB
  rw [kindAt_eq h, inB_iff.2 ⟨by omega, by omega⟩]
  rfl
theorem bad_cells {g : List Nd} {xs : List Int} {i : Nat} (h : i < xs.length) (h' : i < g.length) (hb : ¬ ((0 ≤ xs[i] ∧ xs[i] ≤ 999) ∧ (g[i].kind ≠ 0 → xs[i] = 0))) : cellsOkB g xs = false := cellsOkB_not.2 fun hc => hb (hc.2 i h h')
theorem iValidCells_spec (w0 : World) (L : List Asn) (A : Option Addr) (c : Nat) (ms : List NdM) (hG : RdG w0 L A c ms) (B : Option Addr) (d : Nat) (xs : List Int) (hX : Rd w0 L intE B d xs) (hl : ms.length ≤ 1100000) (hx : xs.length ≤ 1100000) :
    Tr Try.prog 29 #[.agg #[.slice A ms.length c], .slice B xs.length d] w0 L (fun v L' => v = .bool (validG (gr ms) && cellsOkB (gr ms) xs) ∧ L' = L) := by
  refine Tr.enter (args := [.agg #[.slice A ms.length c], .slice B xs.length d]) Try.func29 Try.ntmps29 rfl rfl ?_
  refine GC.seq ?_
  refine GC.region ?_
  refine GL.box_agg rfl rfl ?_; intro g2
  refine GL.v Wag ?_
  refine GL.nil ?_
  refine GE.seq ?_
  refine GC.seq ?_
  refine GC.seq ?_
  refine GC.region ?_
  refine GL.v Wlba ?_
  refine GL.callF rfl rfl (iValidGraph_spec _ _ _ _ _ (by first | assumption | exact RdG.imp (by assumption) Wim | exact RdG.of_pick Wpk Wpk) (by first | omega | exact SizeG.le (by assumption))) ?_
  refine GL.v Wnt ?_
  refine GL.v Wmv ?_
  refine GL.gs (fun h1 => ?_) (fun h1 => ?_)
  · -- t
    refine GL.unwant rfl rfl rfl rfl ?_
    refine GL.unwant rfl rfl rfl rfl ?_
    refine GL.unwant rfl rfl rfl rfl ?_
    refine GL.unwant rfl rfl rfl rfl ?_
    refine GL.unwant rfl rfl rfl rfl ?_
    refine GL.v Wpt ?_
    refine GL.nil ?_
    refine GE.seq ?_
    refine GC.cond_true rfl ?_
    refine GC.seq ?_
    refine GC.region ?_
    refine GL.v Wag ?_
    refine GL.nil ?_
    refine GE.seq ?_
    refine GC.ret ?_
    refine GE.seq_ret ?_
    -- returns, path t
    refine GE.ret_tmp (L' := L) (.inl rfl) rfl rfl Wsb ?_
    exact ⟨by rw [h1]; rfl, rfl⟩
  · -- f
    refine GL.want rfl rfl ?_
    refine GL.v Wmv ?_
    refine GL.want rfl rfl ?_
    refine GL.v Wln ?_
    refine GL.want rfl rfl ?_
    refine GL.v Wlba ?_
    refine GL.want rfl rfl ?_
    refine GL.callF rfl rfl (size_spec _ _ _ _ _) ?_
    refine GL.want rfl rfl ?_
    refine GL.v Wnq ?_
    refine GL.v Wpf ?_
    refine GL.nil ?_
    refine GE.seq ?_
    refine GC.ifs (fun h2 => ?_) (fun h2 => ?_)
    · -- fT
      refine GC.seq ?_
      refine GC.region ?_
      refine GL.v Wag ?_
      refine GL.nil ?_
      refine GE.seq ?_
      refine GC.ret ?_
      refine GE.seq_ret ?_
      -- returns, path fT
      refine GE.ret_tmp (L' := L) (.inl rfl) rfl rfl Wsb ?_
      exact ⟨by rw [h1, cellsOkB_not.2 (fun h => h2 (by have := h.1; simp at this; omega))]; rfl, rfl⟩
    · -- fF
      refine GC.skip ?_
      refine GE.seq ?_
      refine GC.seq ?_
      refine GC.seq ?_
      refine GC.region ?_
      refine GL.v Wmv ?_
      refine GL.v Wln ?_
      refine GL.v Wmv ?_
      refine GL.nil ?_
      refine GE.seq ?_
      refine GC.block ?_
      -- loop 1: carried slots [19]
      rw [h1, Bool.true_and]
      have hll : xs.length = ms.length := by omega
      refine GC.loopK (α := Nat) (fun i => i ≤ xs.length ∧ ∀ j (h : j < i) (h1 : j < xs.length) (h2 : j < (gr ms).length), (0 ≤ xs[j] ∧ xs[j] ≤ 999) ∧ ((gr ms)[j].kind ≠ 0 → xs[j] = 0)) (fun i => [(19, .int .i64 i)]) [(2, _), (17, _), (18, _)] (fun i => blk g2 25 [.slice A ms.length c] :: L) (fun i => xs.length - i) 0 Wkp Wsb ⟨Nat.zero_le _, fun _ h => by omega⟩ ?_
      rintro i ⟨hi, hok⟩
      refine GC.seq ?_
      refine GC.region ?_
      refine GL.v Wls ?_
      refine GL.nil ?_
      refine GE.seq ?_
      refine GC.seq ?_
      refine GC.ifs (fun h3 => ?_) (fun h3 => ?_)
      · -- fFT
        have hil : i < xs.length := by omega
        have hig : i < (gr ms).length := by simp; omega
        have hkk : kindAt (gr ms) i = (gr ms)[i].kind := kindAt_eq hig
        have hbad := bad_cells hil hig
        refine GC.skip ?_
        refine GE.seq ?_
        refine GC.seq ?_
        refine GC.block ?_
        refine GC.seq ?_
        refine GC.region ?_
        refine GL.v Wmv ?_
        refine GL.v Wix ?_
        refine GL.v Wle ?_
        refine GL.v Wag ?_
        refine GL.v Wag ?_
        refine GL.nil ?_
        refine GE.seq ?_
        refine GC.seq ?_
        refine GC.region ?_
        refine GL.v Wmv ?_
        refine GL.callF rfl rfl (in_spec _ _ _ _ _) ?_
        refine GL.v Wnt ?_
        refine GL.v Wmv ?_
        refine GL.gs (fun h4 => ?_) (fun h4 => ?_)
        · -- fFTt
          refine GL.unwant rfl rfl rfl rfl ?_
          refine GL.unwant rfl rfl rfl rfl ?_
          refine GL.unwant rfl rfl rfl rfl ?_
          refine GL.unwantU rfl rfl rfl ?_
          refine GL.unwantU rfl rfl rfl ?_
          refine GL.unwantU rfl rfl rfl ?_
          refine GL.unwantU rfl rfl rfl ?_
          refine GL.unwant rfl rfl rfl rfl ?_
          refine GL.v Wpt ?_
          refine GL.nil ?_
          refine GE.seq ?_
          refine GC.cond_true rfl ?_
          refine GC.seq ?_
          refine GC.region ?_
          refine GL.v Wag ?_
          refine GL.nil ?_
          refine GE.seq ?_
          refine GC.ret ?_
          refine GE.block_ret ?_
          refine GE.seq_ret ?_
          refine GE.loop_ret ?_
          refine GE.block_ret ?_
          refine GE.seq_ret ?_
          -- returns, path fFTt
          refine GE.ret_tmp (L' := L) (.inl rfl) rfl rfl Wsb ?_
          exact ⟨by rw [hbad (fun h => inB_not.1 h4 h.1)], rfl⟩
        · -- fFTf
          refine GL.want rfl rfl ?_
          refine GL.v Wmv ?_
          refine GL.want rfl rfl ?_
          refine GL.v Wnq ?_
          refine GL.want rfl rfl ?_
          refine GL.v Wmv ?_
          refine GL.gs (fun h5 => ?_) (fun h5 => ?_)
          · -- fFTft
            refine GL.want rfl rfl ?_
            refine GL.v Wlba ?_
            refine GL.want rfl rfl ?_
            refine GL.v Wmv ?_
            refine GL.want rfl rfl ?_
            refine GL.callF rfl rfl (cell_spec _ _ _ _ _ (by first | assumption | exact RdG.imp (by assumption) Wim | exact RdG.of_pick Wpk Wpk) _ (by first | omega | exact SizeG.le (by assumption))) ?_
            refine GL.want rfl rfl ?_
            refine GL.v Wnt ?_
            refine GL.want rfl rfl ?_
            refine GL.v Wpt ?_
            refine GL.v Wpf ?_
            refine GL.nil ?_
            refine GE.seq ?_
            refine GC.ifs (fun h6 => ?_) (fun h6 => ?_)
            · -- fFTftT
              refine GC.seq ?_
              refine GC.region ?_
              refine GL.v Wag ?_
              refine GL.nil ?_
              refine GE.seq ?_
              refine GC.ret ?_
              refine GE.block_ret ?_
              refine GE.seq_ret ?_
              refine GE.loop_ret ?_
              refine GE.block_ret ?_
              refine GE.seq_ret ?_
              -- returns, path fFTftT
              refine GE.ret_tmp (L' := L) (.inl rfl) rfl rfl Wsb ?_
              exact ⟨by rw [hbad (fun h => h5 (h.2 (by simpa [cellB_eq hig] using h6)))], rfl⟩
            · -- fFTftF
              refine GC.skip ?_
              refine GE.block ?_
              refine GE.seq ?_
              refine GC.region ?_
              refine GL.v Wad ?_
              refine GL.v Wmv ?_
              refine GL.nil ?_
              -- round of loop 1, path fFTftF
              have h6' : (gr ms)[i].kind = 0 := by simpa [cellB_eq hig] using h6
              refine GE.round (i + 1) ⟨by omega, fun j h a1 a2 => ?_⟩ (by omega) Wkp Wsb
              by_cases e : j = i
              · subst e; exact ⟨inB_iff.1 h4, fun h => absurd h6' h⟩
              · exact hok j (by omega) a1 a2
          · -- fFTff
            refine GL.unwant rfl rfl rfl rfl ?_
            refine GL.unwant rfl rfl rfl rfl ?_
            refine GL.unwant rfl rfl rfl rfl ?_
            refine GL.unwant rfl rfl rfl rfl ?_
            refine GL.want rfl rfl ?_
            refine GL.v Wpf ?_
            refine GL.v Wpf ?_
            refine GL.nil ?_
            refine GE.seq ?_
            refine GC.cond_false rfl ?_
            refine GC.skip ?_
            refine GE.block ?_
            refine GE.seq ?_
            refine GC.region ?_
            refine GL.v Wad ?_
            refine GL.v Wmv ?_
            refine GL.nil ?_
            -- round of loop 1, path fFTff
            refine GE.round (i + 1) ⟨by omega, fun j h a1 a2 => ?_⟩ (by omega) Wkp Wsb
            by_cases e : j = i
            · subst e; exact ⟨inB_iff.1 h4, fun _ => h5⟩
            · exact hok j (by omega) a1 a2
      · -- fFF
        refine GC.exit ?_
        refine GE.seq_exit ?_
        refine GE.loop_exit ?_
        refine GE.block_exit ?_
        refine GE.seq ?_
        refine GC.seq ?_
        refine GC.region ?_
        refine GL.v Wag ?_
        refine GL.nil ?_
        refine GE.seq ?_
        refine GC.ret ?_
        -- returns, path fFF
        refine GE.ret_tmp (L' := L) (.inl rfl) rfl rfl Wsb ?_
        exact ⟨by rw [cellsOkB_iff.2 ⟨by simp; omega, fun j a1 a2 => hok j (by omega) a1 a2⟩], rfl⟩
theorem svalidCells_spec (w0 : World) (L : List Asn) (A : Option Addr) (c : Nat) (ms : List NdM) (hG : RdG w0 L A c ms) (B : Option Addr) (d : Nat) (xs : List Int) (hX : Rd w0 L intE B d xs) (hx : xs.length ≤ 1100000) :
    Tr Try.prog 76 #[.agg #[.slice A ms.length c], .slice B xs.length d] w0 L (fun v L' => v = .bool (cellsOkB (gr ms) xs) ∧ L' = L) := by
  have hN := hG.nodes
  refine Tr.enter (args := [.agg #[.slice A ms.length c], .slice B xs.length d]) Try.func76 Try.ntmps76 rfl rfl ?_
  refine GC.seq ?_
  refine GC.region ?_
  refine GL.box_agg rfl rfl ?_; intro g2
  refine GL.v Wag ?_
  refine GL.nil ?_
  refine GE.seq ?_
  refine GC.seq ?_
  refine GC.seq ?_
  refine GC.region ?_
  refine GL.v Wmv ?_
  refine GL.v Wln ?_
  refine GL.v Wfa ?_
  refine GL.v Wlb ?_
  refine GL.v Wln ?_
  refine GL.v Wnq ?_
  refine GL.nil ?_
  refine GE.seq ?_
  refine GC.ifs (fun h1 => ?_) (fun h1 => ?_)
  · -- T
    refine GC.seq ?_
    refine GC.region ?_
    refine GL.v Wag ?_
    refine GL.nil ?_
    refine GE.seq ?_
    refine GC.ret ?_
    refine GE.seq_ret ?_
    -- returns, path T
    refine GE.ret_tmp (L' := L) (.inl rfl) rfl rfl Wsb ?_
    exact ⟨by rw [cellsOkB_not.2 (fun h => h1 (by have := h.1; simp at this; omega))], rfl⟩
  · -- F
    refine GC.skip ?_
    refine GE.seq ?_
    refine GC.seq ?_
    refine GC.seq ?_
    refine GC.region ?_
    refine GL.v Wag ?_
    refine GL.nil ?_
    refine GE.seq ?_
    refine GC.block ?_
    -- loop 1: carried slots [5]
    have hll : xs.length = ms.length := by omega
    refine GC.loopK (α := Nat) (fun i => i ≤ xs.length ∧ ∀ j (h : j < i) (h1 : j < xs.length) (h2 : j < (gr ms).length), (0 ≤ xs[j] ∧ xs[j] ≤ 999) ∧ ((gr ms)[j].kind ≠ 0 → xs[j] = 0)) (fun i => [(5, .int .i64 i)]) [(1, _), (2, _)] (fun i => blk g2 25 [.slice A ms.length c] :: L) (fun i => xs.length - i) 0 Wkp Wsb ⟨Nat.zero_le _, fun _ h => by omega⟩ ?_
    rintro i ⟨hi, hok⟩
    refine GC.seq ?_
    refine GC.seq ?_
    refine GC.region ?_
    refine GL.v Wmv ?_
    refine GL.v Wmv ?_
    refine GL.v Wln ?_
    refine GL.v Wls ?_
    refine GL.nil ?_
    refine GE.seq ?_
    refine GC.ifs (fun h2 => ?_) (fun h2 => ?_)
    · -- FT
      have hil : i < xs.length := by omega
      have hig : i < (gr ms).length := by simp; omega
      have hbad := bad_cells hil hig
      have hgk : (gr ms)[i].kind = (ms[i]'(by omega)).kind := by rw [gr_get]; rfl
      refine GC.skip ?_
      refine GE.seq ?_
      refine GC.seq ?_
      refine GC.block ?_
      refine GC.seq ?_
      refine GC.region ?_
      refine GL.v Wmv ?_
      refine GL.v Wmv ?_
      refine GL.v Wix ?_
      refine GL.v Wle ?_
      refine GL.callF rfl rfl (inRange_spec _ _ _ _ _) ?_
      refine GL.v Wnt ?_
      refine GL.v Wmv ?_
      refine GL.gs (fun h3 => ?_) (fun h3 => ?_)
      · -- FTt
        refine GL.unwant rfl rfl rfl rfl ?_
        refine GL.unwant rfl rfl rfl rfl ?_
        refine GL.unwant rfl rfl rfl rfl ?_
        refine GL.unwant rfl rfl rfl rfl ?_
        refine GL.unwant rfl rfl rfl rfl ?_
        refine GL.unwant rfl rfl rfl rfl ?_
        refine GL.unwant rfl rfl rfl rfl ?_
        refine GL.unwant rfl rfl rfl rfl ?_
        refine GL.unwantU rfl rfl rfl ?_
        refine GL.unwantU rfl rfl rfl ?_
        refine GL.unwantU rfl rfl rfl ?_
        refine GL.unwantU rfl rfl rfl ?_
        refine GL.unwantU rfl rfl rfl ?_
        refine GL.unwant rfl rfl rfl rfl ?_
        refine GL.v Wpt ?_
        refine GL.nil ?_
        refine GE.seq ?_
        refine GC.cond_true rfl ?_
        refine GC.seq ?_
        refine GC.region ?_
        refine GL.v Wag ?_
        refine GL.nil ?_
        refine GE.seq ?_
        refine GC.ret ?_
        refine GE.block_ret ?_
        refine GE.seq_ret ?_
        refine GE.loop_ret ?_
        refine GE.block_ret ?_
        refine GE.seq_ret ?_
        -- returns, path FTt
        refine GE.ret_tmp (L' := L) (.inl rfl) rfl rfl Wsb ?_
        exact ⟨by rw [hbad (fun h => inB_not.1 h3 h.1)], rfl⟩
      · -- FTf
        refine GL.want rfl rfl ?_
        refine GL.v Wfa ?_
        refine GL.want rfl rfl ?_
        refine GL.v Wlb ?_
        refine GL.want rfl rfl ?_
        refine GL.v Wmv ?_
        refine GL.want rfl rfl ?_
        refine GL.v Wix ?_
        refine GL.want rfl rfl ?_
        refine GL.v Wfa ?_
        refine GL.want rfl rfl ?_
        refine GL.v Wlef ?_
        refine GL.want rfl rfl ?_
        refine GL.v Wnq ?_
        refine GL.want rfl rfl ?_
        refine GL.v Wmv ?_
        refine GL.gs (fun h4 => ?_) (fun h4 => ?_)
        · -- FTft
          refine GL.want rfl rfl ?_
          refine GL.v Wmv ?_
          refine GL.want rfl rfl ?_
          refine GL.v Wmv ?_
          refine GL.want rfl rfl ?_
          refine GL.v Wix ?_
          refine GL.want rfl rfl ?_
          refine GL.v Wle ?_
          refine GL.want rfl rfl ?_
          refine GL.v Wnq ?_
          refine GL.want rfl rfl ?_
          refine GL.v Wpt ?_
          refine GL.v Wpf ?_
          refine GL.nil ?_
          refine GE.seq ?_
          refine GC.ifs (fun h5 => ?_) (fun h5 => ?_)
          · -- FTftT
            refine GC.seq ?_
            refine GC.region ?_
            refine GL.v Wag ?_
            refine GL.nil ?_
            refine GE.seq ?_
            refine GC.ret ?_
            refine GE.block_ret ?_
            refine GE.seq_ret ?_
            refine GE.loop_ret ?_
            refine GE.block_ret ?_
            refine GE.seq_ret ?_
            -- returns, path FTftT
            refine GE.ret_tmp (L' := L) (.inl rfl) rfl rfl Wsb ?_
            exact ⟨by rw [hbad (fun h => h5 (h.2 (by rw [hgk]; exact h4)))], rfl⟩
          · -- FTftF
            refine GC.skip ?_
            refine GE.block ?_
            refine GE.seq ?_
            refine GC.region ?_
            refine GL.v Wmv ?_
            refine GL.v Wad ?_
            refine GL.v Wag ?_
            refine GL.nil ?_
            -- round of loop 1, path FTftF
            refine GE.round (i + 1) ⟨by omega, fun j h a1 a2 => ?_⟩ (by omega) Wkp Wsb
            by_cases e : j = i
            · subst e; exact ⟨inB_iff.1 h3, fun _ => h5⟩
            · exact hok j (by omega) a1 a2
        · -- FTff
          refine GL.unwant rfl rfl rfl rfl ?_
          refine GL.unwant rfl rfl rfl rfl ?_
          refine GL.unwant rfl rfl rfl rfl ?_
          refine GL.unwant rfl rfl rfl rfl ?_
          refine GL.unwant rfl rfl rfl rfl ?_
          refine GL.want rfl rfl ?_
          refine GL.v Wpf ?_
          refine GL.v Wpf ?_
          refine GL.nil ?_
          refine GE.seq ?_
          refine GC.cond_false rfl ?_
          refine GC.skip ?_
          refine GE.block ?_
          refine GE.seq ?_
          refine GC.region ?_
          refine GL.v Wmv ?_
          refine GL.v Wad ?_
          refine GL.v Wag ?_
          refine GL.nil ?_
          -- round of loop 1, path FTff
          refine GE.round (i + 1) ⟨by omega, fun j h a1 a2 => ?_⟩ (by omega) Wkp Wsb
          by_cases e : j = i
          · subst e; exact ⟨inB_iff.1 h3, fun h => absurd (hgk.trans h4) h⟩
          · exact hok j (by omega) a1 a2
    · -- FF
      refine GC.exit ?_
      refine GE.seq_exit ?_
      refine GE.loop_exit ?_
      refine GE.block_exit ?_
      refine GE.seq ?_
      refine GC.seq ?_
      refine GC.region ?_
      refine GL.v Wag ?_
      refine GL.nil ?_
      refine GE.seq ?_
      refine GC.ret ?_
      -- returns, path FF
      refine GE.ret_tmp (L' := L) (.inl rfl) rfl rfl Wsb ?_
      exact ⟨by rw [cellsOkB_iff.2 ⟨by simp; omega, fun j a1 a2 => hok j (by omega) a1 a2⟩], rfl⟩
end SG
