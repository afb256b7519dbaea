/- Contracts: sessions, of both; drawn sessions. -/
import Derived.Test.YtllepoepfkobfaaD10
import Derived.Test.YtllepoepfkobfaaD13
import Derived.Test.YtllepoepfkobfaaD21
import Derived.Test.YtllepoepfkobfaaD25
import Derived.Test.YtllepoepfkobfaaPlain16
namespace SG
open Go Go.RowKit Go.Proofs
set_option linter.unusedVariables false
set_option linter.unusedSimpArgs false
set_option maxRecDepth 100000
theorem bdAct1 (k : Int) : BdOk Try.prog 45 [(0, .int .i64 k)] (Act3.val ⟨k, 0, 0⟩) := ⟨fun w => by kernel_rfl⟩
theorem bdAct2 (k n : Int) : BdOk Try.prog 45 [(0, .int .i64 k), (1, .int .i64 n)] (Act3.val ⟨k, n, 0⟩) := ⟨fun w => by kernel_rfl⟩
theorem bdAct3 (k n v : Int) : BdOk Try.prog 45 [(0, .int .i64 k), (1, .int .i64 n), (2, .int .i64 v)] (Act3.val ⟨k, n, v⟩) := ⟨fun w => by kernel_rfl⟩
theorem bdAct13 (k v : Int) : BdOk Try.prog 45 [(0, .int .i64 k), (2, .int .i64 v)] (Act3.val ⟨k, 0, v⟩) := ⟨fun w => by kernel_rfl⟩
theorem bsAct0 : BsOk Try.prog 26 0 [] actE [] := ⟨fun w => by kernel_rfl⟩
theorem bsAct1 (p : Act3) : BsOk Try.prog 26 1 [(0, .agg #[.int .i64 p.kind, .int .i64 p.node, .int .i64 p.value])] actE [p] := ⟨fun w => by kernel_rfl⟩
theorem iValidActs_spec (w0 : World) (L : List Asn) (A : Option Addr) (c : Nat) (ms : List NdM) (hG : RdG w0 L A c ms) (B : Option Addr) (d : Nat) (acts : List Act3) (hX : Rd w0 L actE B d acts) (hl : ms.length ≤ 1100000) (ha : acts.length ≤ 1100000) :
    Tr Try.prog 13 #[.agg #[.slice A ms.length c], .slice B acts.length d] w0 L (fun v L' => v = .bool (actsB (gr ms) acts) ∧ L' = L) := by
  have hN := hG.nodes
  refine Tr.enter (args := [.agg #[.slice A ms.length c], .slice B acts.length d]) Try.func13 Try.ntmps13 rfl rfl ?_
  refine GC.seq ?_
  refine GC.region ?_
  refine GL.box_agg rfl rfl ?_; intro g2
  refine GL.v Wag ?_
  refine GL.nil ?_
  refine GE.seq ?_
  refine GC.seq ?_
  refine GC.seq ?_
  refine GC.region ?_
  refine GL.v Wlba ?_
  refine GL.callF rfl rfl (iValidGraph_spec _ _ _ _ _ (by first | assumption | exact RdG.imp (by assumption) Wim | exact RdG.of_pick Wpk Wpk) (by first | omega | exact SizeG.le (by assumption))) ?_
  refine GL.v Wnt ?_
  refine GL.v Wmv ?_
  refine GL.gs (fun h1 => ?_) (fun h1 => ?_)
  · -- t
    refine GL.unwant rfl rfl rfl rfl ?_
    refine GL.unwant rfl rfl rfl rfl ?_
    refine GL.unwant rfl rfl rfl rfl ?_
    refine GL.v Wpt ?_
    refine GL.nil ?_
    refine GE.seq ?_
    refine GC.cond_true rfl ?_
    refine GC.seq ?_
    refine GC.region ?_
    refine GL.v Wag ?_
    refine GL.nil ?_
    refine GE.seq ?_
    refine GC.ret ?_
    refine GE.seq_ret ?_
    -- returns, path t
    refine GE.ret_tmp (L' := L) (.inl rfl) rfl rfl Wsb ?_
    exact ⟨by rw [actsB_no1 h1], rfl⟩
  · -- f
    refine GL.want rfl rfl ?_
    refine GL.v Wmv ?_
    refine GL.want rfl rfl ?_
    refine GL.v Wln ?_
    refine GL.want rfl rfl ?_
    refine GL.v Wgt ?_
    refine GL.v Wpf ?_
    refine GL.nil ?_
    refine GE.seq ?_
    refine GC.ifs (fun h2 => ?_) (fun h2 => ?_)
    · -- fT
      refine GC.seq ?_
      refine GC.region ?_
      refine GL.v Wag ?_
      refine GL.nil ?_
      refine GE.seq ?_
      refine GC.ret ?_
      refine GE.seq_ret ?_
      -- returns, path fT
      refine GE.ret_tmp (L' := L) (.inl rfl) rfl rfl Wsb ?_
      exact ⟨by rw [actsB_no2 (by omega)], rfl⟩
    · -- fF
      refine GC.skip ?_
      refine GE.seq ?_
      refine GC.seq ?_
      refine GC.seq ?_
      refine GC.region ?_
      refine GL.v Wmv ?_
      refine GL.v Wln ?_
      refine GL.v Wmv ?_
      refine GL.nil ?_
      refine GE.seq ?_
      refine GC.block ?_
      -- loop 1: carried slots [18]
      refine GC.loopK (α := Nat) (fun i => i ≤ acts.length ∧ ∀ j (h : j < i) (hj : j < acts.length), actB (gr ms) acts[j] = true) (fun i => [(18, .int .i64 i)]) [(2, _), (16, _), (17, _)] (fun i => blk g2 25 [.slice A ms.length c] :: L) (fun i => acts.length - i) 0 Wkp Wsb ⟨Nat.zero_le _, fun _ h => by omega⟩ ?_
      rintro i ⟨hi, hok⟩
      refine GC.seq ?_
      refine GC.region ?_
      refine GL.v Wls ?_
      refine GL.nil ?_
      refine GE.seq ?_
      refine GC.seq ?_
      refine GC.ifs (fun h3 => ?_) (fun h3 => ?_)
      · -- fFT
        have hil : i < acts.length := by omega
        have hgl := gr_length ms
        obtain ⟨a, hae⟩ : ∃ a, acts[i] = a := ⟨_, rfl⟩
        have hno : actB (gr ms) a = false → actsB (gr ms) acts = false := fun h => actsB_no3 hil (by rw [hae]; exact h)
        refine GC.skip ?_
        refine GE.seq ?_
        refine GC.seq ?_
        refine GC.block ?_
        refine GC.seq ?_
        refine GC.region ?_
        refine GL.v Wix ?_
        refine GL.v Wle ?_
        rw [show actE.val acts[i] = .agg #[.int .i64 a.kind, .int .i64 a.node, .int .i64 a.value] by rw [hae]; rfl]
        refine GL.alloc rfl ?_; intro g6
        refine GL.store_varN rfl rfl rfl Wpk (by rfl) (by rfl) (by rfl) ?_
        refine GL.nil ?_
        refine GE.seq ?_
        refine GC.seq ?_
        refine GC.region ?_
        refine GL.v Wag ?_
        refine GL.nil ?_
        refine GE.seq ?_
        refine GC.seq ?_
        refine GC.seq ?_
        refine GC.region ?_
        refine GL.v Wfa ?_
        refine GL.v Wlb ?_
        refine GL.nil ?_
        refine GE.seq ?_
        refine GC.block ?_
        refine GC.seq ?_
        refine GC.region ?_
        refine GL.v Weq ?_
        refine GL.v Wag ?_
        refine GL.nil ?_
        refine GE.seq ?_
        refine GC.ifs (fun h4 => ?_) (fun h4 => ?_)
        · -- fFTT
          refine GC.region ?_
          refine GL.v Wlba ?_
          refine GL.v Wfa ?_
          refine GL.v Wlb ?_
          refine GL.callF rfl rfl (cell_spec _ _ _ _ _ (by first | assumption | exact RdG.imp (by assumption) Wim | exact RdG.of_pick Wpk Wpk) _ (by first | omega | exact SizeG.le (by assumption))) ?_
          refine GL.v Wmv ?_
          refine GL.gs (fun h5 => ?_) (fun h5 => ?_)
          · -- fFTTt
            refine GL.want rfl rfl ?_
            refine GL.v Wfa ?_
            refine GL.want rfl rfl ?_
            refine GL.v Wlb ?_
            refine GL.want rfl rfl ?_
            refine GL.callF rfl rfl (in_spec _ _ _ _ _) ?_
            refine GL.v Wpt ?_
            refine GL.v Wag ?_
            refine GL.nil ?_
            refine GE.block ?_
            refine GE.seq ?_
            refine GC.seq ?_
            refine GC.region ?_
            refine GL.v Wmv ?_
            refine GL.v Wnt ?_
            refine GL.nil ?_
            refine GE.seq ?_
            refine GC.ifs (fun h6 => ?_) (fun h6 => ?_)
            · -- fFTTtT
              refine GC.seq ?_
              refine GC.region ?_
              refine GL.v Wag ?_
              refine GL.nil ?_
              refine GE.seq ?_
              refine GC.ret ?_
              refine GE.block_ret ?_
              refine GE.seq_ret ?_
              refine GE.loop_ret ?_
              refine GE.block_ret ?_
              refine GE.seq_ret ?_
              -- returns, path fFTTtT
              refine GE.ret_tmp (L' := L) (.inl rfl) rfl rfl Wsb ?_
              exact ⟨by rw [hno (by simp [actB, *])], rfl⟩
            · -- fFTTtF
              refine GC.skip ?_
              refine GE.block ?_
              refine GE.seq ?_
              refine GC.region ?_
              refine GL.v Wad ?_
              refine GL.v Wmv ?_
              refine GL.nil ?_
              -- round of loop 1, path fFTTtF
              refine GE.round (i + 1) ⟨by omega, fun j h hj => ?_⟩ (by omega) Wkp Wsb
              by_cases e : j = i
              · subst e; rw [hae]; simp [actB, *]
              · exact hok j (by omega) hj
          · -- fFTTf
            refine GL.unwant rfl rfl rfl rfl ?_
            refine GL.unwant rfl rfl rfl rfl ?_
            refine GL.unwant rfl rfl rfl rfl ?_
            refine GL.v Wpf ?_
            refine GL.v Wag ?_
            refine GL.nil ?_
            refine GE.block ?_
            refine GE.seq ?_
            refine GC.seq ?_
            refine GC.region ?_
            refine GL.v Wmv ?_
            refine GL.v Wnt ?_
            refine GL.nil ?_
            refine GE.seq ?_
            refine GC.cond_true rfl ?_
            refine GC.seq ?_
            refine GC.region ?_
            refine GL.v Wag ?_
            refine GL.nil ?_
            refine GE.seq ?_
            refine GC.ret ?_
            refine GE.block_ret ?_
            refine GE.seq_ret ?_
            refine GE.loop_ret ?_
            refine GE.block_ret ?_
            refine GE.seq_ret ?_
            -- returns, path fFTTf
            refine GE.ret_tmp (L' := L) (.inl rfl) rfl rfl Wsb ?_
            exact ⟨by rw [hno (by simp [actB, *])], rfl⟩
        · -- fFTF
          refine GC.seq ?_
          refine GC.region ?_
          refine GL.v Weq ?_
          refine GL.v Wag ?_
          refine GL.nil ?_
          refine GE.seq ?_
          refine GC.ifs (fun h5 => ?_) (fun h5 => ?_)
          · -- fFTFT
            refine GC.region ?_
            refine GL.v Wlba ?_
            refine GL.v Wfa ?_
            refine GL.v Wlb ?_
            refine GL.callF rfl rfl (has_spec _ _ _ _ _ _ (by first | omega | exact SizeG.le (by assumption))) ?_
            refine GL.v Wmv ?_
            refine GL.gs (fun h6 => ?_) (fun h6 => ?_)
            · -- fFTFTt
              have hn := inB_iff.1 h6
              have hkn : kindAt (gr ms) a.node = (ms[a.node.toNat]'(by omega)).kind := kindAt_gr (by omega)
              refine GL.want rfl rfl ?_
              refine GL.v Wfa ?_
              refine GL.want rfl rfl ?_
              refine GL.v Wlb ?_
              refine GL.want rfl rfl ?_
              refine GL.v Wfa ?_
              refine GL.want rfl rfl ?_
              refine GL.v Wlb ?_
              refine GL.want rfl rfl ?_
              refine GL.v Wix ?_
              refine GL.want rfl rfl ?_
              refine GL.v Wfa ?_
              refine GL.want rfl rfl ?_
              refine GL.v Wlef ?_
              refine GL.want rfl rfl ?_
              refine GL.v Weq ?_
              refine GL.v Wpt ?_
              refine GL.v Wmv ?_
              refine GL.gs (fun h7 => ?_) (fun h7 => ?_)
              · -- fFTFTtt
                refine GL.want rfl rfl ?_
                refine GL.v Wfa ?_
                refine GL.want rfl rfl ?_
                refine GL.v Wlb ?_
                refine GL.want rfl rfl ?_
                refine GL.v Weq ?_
                refine GL.v Wpt ?_
                refine GL.v Wag ?_
                refine GL.nil ?_
                refine GE.block ?_
                refine GE.seq ?_
                refine GC.seq ?_
                refine GC.region ?_
                refine GL.v Wmv ?_
                refine GL.v Wnt ?_
                refine GL.nil ?_
                refine GE.seq ?_
                refine GC.ifs (fun h8 => ?_) (fun h8 => ?_)
                · -- fFTFTttT
                  refine GC.seq ?_
                  refine GC.region ?_
                  refine GL.v Wag ?_
                  refine GL.nil ?_
                  refine GE.seq ?_
                  refine GC.ret ?_
                  refine GE.block_ret ?_
                  refine GE.seq_ret ?_
                  refine GE.loop_ret ?_
                  refine GE.block_ret ?_
                  refine GE.seq_ret ?_
                  -- returns, path fFTFTttT
                  refine GE.ret_tmp (L' := L) (.inl rfl) rfl rfl Wsb ?_
                  exact ⟨by rw [hno (by simp [actB, *])], rfl⟩
                · -- fFTFTttF
                  refine GC.skip ?_
                  refine GE.block ?_
                  refine GE.seq ?_
                  refine GC.region ?_
                  refine GL.v Wad ?_
                  refine GL.v Wmv ?_
                  refine GL.nil ?_
                  -- round of loop 1, path fFTFTttF
                  refine GE.round (i + 1) ⟨by omega, fun j h hj => ?_⟩ (by omega) Wkp Wsb
                  by_cases e : j = i
                  · subst e; rw [hae]; simp [actB, *]
                  · exact hok j (by omega) hj
              · -- fFTFTtf
                refine GL.unwant rfl rfl rfl rfl ?_
                refine GL.unwant rfl rfl rfl rfl ?_
                refine GL.unwant rfl rfl rfl rfl ?_
                refine GL.v Wpf ?_
                refine GL.v Wag ?_
                refine GL.nil ?_
                refine GE.block ?_
                refine GE.seq ?_
                refine GC.seq ?_
                refine GC.region ?_
                refine GL.v Wmv ?_
                refine GL.v Wnt ?_
                refine GL.nil ?_
                refine GE.seq ?_
                refine GC.cond_true rfl ?_
                refine GC.seq ?_
                refine GC.region ?_
                refine GL.v Wag ?_
                refine GL.nil ?_
                refine GE.seq ?_
                refine GC.ret ?_
                refine GE.block_ret ?_
                refine GE.seq_ret ?_
                refine GE.loop_ret ?_
                refine GE.block_ret ?_
                refine GE.seq_ret ?_
                -- returns, path fFTFTtf
                refine GE.ret_tmp (L' := L) (.inl rfl) rfl rfl Wsb ?_
                exact ⟨by rw [hno (by simp [actB, *])], rfl⟩
            · -- fFTFTf
              refine GL.unwant rfl rfl rfl rfl ?_
              refine GL.unwant rfl rfl rfl rfl ?_
              refine GL.unwant rfl rfl rfl rfl ?_
              refine GL.unwant rfl rfl rfl rfl ?_
              refine GL.unwant rfl rfl rfl rfl ?_
              refine GL.unwant rfl rfl rfl rfl ?_
              refine GL.unwant rfl rfl rfl rfl ?_
              refine GL.unwant rfl rfl rfl rfl ?_
              refine GL.v Wpf ?_
              refine GL.v Wmv ?_
              refine GL.unwant rfl rfl rfl rfl ?_
              refine GL.unwant rfl rfl rfl rfl ?_
              refine GL.unwant rfl rfl rfl rfl ?_
              refine GL.v Wpf ?_
              refine GL.v Wag ?_
              refine GL.nil ?_
              refine GE.block ?_
              refine GE.seq ?_
              refine GC.seq ?_
              refine GC.region ?_
              refine GL.v Wmv ?_
              refine GL.v Wnt ?_
              refine GL.nil ?_
              refine GE.seq ?_
              refine GC.cond_true rfl ?_
              refine GC.seq ?_
              refine GC.region ?_
              refine GL.v Wag ?_
              refine GL.nil ?_
              refine GE.seq ?_
              refine GC.ret ?_
              refine GE.block_ret ?_
              refine GE.seq_ret ?_
              refine GE.loop_ret ?_
              refine GE.block_ret ?_
              refine GE.seq_ret ?_
              -- returns, path fFTFTf
              refine GE.ret_tmp (L' := L) (.inl rfl) rfl rfl Wsb ?_
              exact ⟨by rw [hno (by simp [actB, *])], rfl⟩
          · -- fFTFF
            refine GC.seq ?_
            refine GC.seq ?_
            refine GC.region ?_
            refine GL.v Weq ?_
            refine GL.v Wag ?_
            refine GL.nil ?_
            refine GE.seq ?_
            refine GC.ifs (fun h6 => ?_) (fun h6 => ?_)
            · -- fFTFFT
              refine GC.skip ?_
              refine GE.seq ?_
              refine GC.cond_true rfl ?_
              refine GC.region ?_
              refine GL.v Wfa ?_
              refine GL.v Wlb ?_
              refine GL.v Weq ?_
              refine GL.v Wmv ?_
              refine GL.gs (fun h7 => ?_) (fun h7 => ?_)
              · -- fFTFFTt
                refine GL.want rfl rfl ?_
                refine GL.v Wfa ?_
                refine GL.want rfl rfl ?_
                refine GL.v Wlb ?_
                refine GL.want rfl rfl ?_
                refine GL.v Weq ?_
                refine GL.v Wpt ?_
                refine GL.v Wag ?_
                refine GL.nil ?_
                refine GE.block ?_
                refine GE.seq ?_
                refine GC.seq ?_
                refine GC.region ?_
                refine GL.v Wmv ?_
                refine GL.v Wnt ?_
                refine GL.nil ?_
                refine GE.seq ?_
                refine GC.ifs (fun h8 => ?_) (fun h8 => ?_)
                · -- fFTFFTtT
                  refine GC.seq ?_
                  refine GC.region ?_
                  refine GL.v Wag ?_
                  refine GL.nil ?_
                  refine GE.seq ?_
                  refine GC.ret ?_
                  refine GE.block_ret ?_
                  refine GE.seq_ret ?_
                  refine GE.loop_ret ?_
                  refine GE.block_ret ?_
                  refine GE.seq_ret ?_
                  -- returns, path fFTFFTtT
                  refine GE.ret_tmp (L' := L) (.inl rfl) rfl rfl Wsb ?_
                  exact ⟨by rw [hno (by simp [actB, *])], rfl⟩
                · -- fFTFFTtF
                  refine GC.skip ?_
                  refine GE.block ?_
                  refine GE.seq ?_
                  refine GC.region ?_
                  refine GL.v Wad ?_
                  refine GL.v Wmv ?_
                  refine GL.nil ?_
                  -- round of loop 1, path fFTFFTtF
                  refine GE.round (i + 1) ⟨by omega, fun j h hj => ?_⟩ (by omega) Wkp Wsb
                  by_cases e : j = i
                  · subst e; rw [hae]; simp [actB, *]
                  · exact hok j (by omega) hj
              · -- fFTFFTf
                refine GL.unwant rfl rfl rfl rfl ?_
                refine GL.unwant rfl rfl rfl rfl ?_
                refine GL.unwant rfl rfl rfl rfl ?_
                refine GL.v Wpf ?_
                refine GL.v Wag ?_
                refine GL.nil ?_
                refine GE.block ?_
                refine GE.seq ?_
                refine GC.seq ?_
                refine GC.region ?_
                refine GL.v Wmv ?_
                refine GL.v Wnt ?_
                refine GL.nil ?_
                refine GE.seq ?_
                refine GC.cond_true rfl ?_
                refine GC.seq ?_
                refine GC.region ?_
                refine GL.v Wag ?_
                refine GL.nil ?_
                refine GE.seq ?_
                refine GC.ret ?_
                refine GE.block_ret ?_
                refine GE.seq_ret ?_
                refine GE.loop_ret ?_
                refine GE.block_ret ?_
                refine GE.seq_ret ?_
                -- returns, path fFTFFTf
                refine GE.ret_tmp (L' := L) (.inl rfl) rfl rfl Wsb ?_
                exact ⟨by rw [hno (by simp [actB, *])], rfl⟩
            · -- fFTFFF
              refine GC.region ?_
              refine GL.v Weq ?_
              refine GL.v Wag ?_
              refine GL.nil ?_
              refine GE.seq ?_
              refine GC.ifs (fun h7 => ?_) (fun h7 => ?_)
              · -- fFTFFFT
                refine GC.region ?_
                refine GL.v Wfa ?_
                refine GL.v Wlb ?_
                refine GL.v Weq ?_
                refine GL.v Wmv ?_
                refine GL.gs (fun h8 => ?_) (fun h8 => ?_)
                · -- fFTFFFTt
                  refine GL.want rfl rfl ?_
                  refine GL.v Wfa ?_
                  refine GL.want rfl rfl ?_
                  refine GL.v Wlb ?_
                  refine GL.want rfl rfl ?_
                  refine GL.v Weq ?_
                  refine GL.v Wpt ?_
                  refine GL.v Wag ?_
                  refine GL.nil ?_
                  refine GE.block ?_
                  refine GE.seq ?_
                  refine GC.seq ?_
                  refine GC.region ?_
                  refine GL.v Wmv ?_
                  refine GL.v Wnt ?_
                  refine GL.nil ?_
                  refine GE.seq ?_
                  refine GC.ifs (fun h9 => ?_) (fun h9 => ?_)
                  · -- fFTFFFTtT
                    refine GC.seq ?_
                    refine GC.region ?_
                    refine GL.v Wag ?_
                    refine GL.nil ?_
                    refine GE.seq ?_
                    refine GC.ret ?_
                    refine GE.block_ret ?_
                    refine GE.seq_ret ?_
                    refine GE.loop_ret ?_
                    refine GE.block_ret ?_
                    refine GE.seq_ret ?_
                    -- returns, path fFTFFFTtT
                    refine GE.ret_tmp (L' := L) (.inl rfl) rfl rfl Wsb ?_
                    exact ⟨by rw [hno (by simp [actB, *])], rfl⟩
                  · -- fFTFFFTtF
                    refine GC.skip ?_
                    refine GE.block ?_
                    refine GE.seq ?_
                    refine GC.region ?_
                    refine GL.v Wad ?_
                    refine GL.v Wmv ?_
                    refine GL.nil ?_
                    -- round of loop 1, path fFTFFFTtF
                    refine GE.round (i + 1) ⟨by omega, fun j h hj => ?_⟩ (by omega) Wkp Wsb
                    by_cases e : j = i
                    · subst e; rw [hae]; simp [actB, *]
                    · exact hok j (by omega) hj
                · -- fFTFFFTf
                  refine GL.unwant rfl rfl rfl rfl ?_
                  refine GL.unwant rfl rfl rfl rfl ?_
                  refine GL.unwant rfl rfl rfl rfl ?_
                  refine GL.v Wpf ?_
                  refine GL.v Wag ?_
                  refine GL.nil ?_
                  refine GE.block ?_
                  refine GE.seq ?_
                  refine GC.seq ?_
                  refine GC.region ?_
                  refine GL.v Wmv ?_
                  refine GL.v Wnt ?_
                  refine GL.nil ?_
                  refine GE.seq ?_
                  refine GC.cond_true rfl ?_
                  refine GC.seq ?_
                  refine GC.region ?_
                  refine GL.v Wag ?_
                  refine GL.nil ?_
                  refine GE.seq ?_
                  refine GC.ret ?_
                  refine GE.block_ret ?_
                  refine GE.seq_ret ?_
                  refine GE.loop_ret ?_
                  refine GE.block_ret ?_
                  refine GE.seq_ret ?_
                  -- returns, path fFTFFFTf
                  refine GE.ret_tmp (L' := L) (.inl rfl) rfl rfl Wsb ?_
                  exact ⟨by rw [hno (by simp [actB, *])], rfl⟩
              · -- fFTFFFF
                refine GC.skip ?_
                refine GE.block ?_
                refine GE.seq ?_
                refine GC.seq ?_
                refine GC.region ?_
                refine GL.v Wmv ?_
                refine GL.v Wnt ?_
                refine GL.nil ?_
                refine GE.seq ?_
                refine GC.cond_true rfl ?_
                refine GC.seq ?_
                refine GC.region ?_
                refine GL.v Wag ?_
                refine GL.nil ?_
                refine GE.seq ?_
                refine GC.ret ?_
                refine GE.block_ret ?_
                refine GE.seq_ret ?_
                refine GE.loop_ret ?_
                refine GE.block_ret ?_
                refine GE.seq_ret ?_
                -- returns, path fFTFFFF
                refine GE.ret_tmp (L' := L) (.inl rfl) rfl rfl Wsb ?_
                exact ⟨by rw [hno (by simp [actB, *])], rfl⟩
      · -- fFF
        refine GC.exit ?_
        refine GE.seq_exit ?_
        refine GE.loop_exit ?_
        refine GE.block_exit ?_
        refine GE.seq ?_
        refine GC.seq ?_
        refine GC.region ?_
        refine GL.v Wag ?_
        refine GL.nil ?_
        refine GE.seq ?_
        refine GC.ret ?_
        -- returns, path fFF
        refine GE.ret_tmp (L' := L) (.inl rfl) rfl rfl Wsb ?_
        exact ⟨by rw [actsB_yes h1 (by omega) fun j hj => hok j (by omega) hj], rfl⟩
theorem svalidActs_spec (w0 : World) (L : List Asn) (A : Option Addr) (c : Nat) (ms : List NdM) (hG : RdG w0 L A c ms) (B : Option Addr) (d : Nat) (acts : List Act3) (hX : Rd w0 L actE B d acts) (hS : SizeG ms) (ha : acts.length ≤ 1100000) :
    Tr Try.prog 55 #[.agg #[.slice A ms.length c], .slice B acts.length d] w0 L (fun v L' => v = .bool (actsB (gr ms) acts) ∧ L' = L) := by
  have hN := hG.nodes
  have hSl := hS.1
  refine Tr.enter (args := [.agg #[.slice A ms.length c], .slice B acts.length d]) Try.func55 Try.ntmps55 rfl rfl ?_
  refine GC.seq ?_
  refine GC.region ?_
  refine GL.box_agg rfl rfl ?_; intro g2
  refine GL.v Wag ?_
  refine GL.nil ?_
  refine GE.seq ?_
  refine GC.seq ?_
  refine GC.seq ?_
  refine GC.region ?_
  refine GL.v Wag ?_
  refine GL.nil ?_
  refine GE.seq ?_
  refine GC.block ?_
  -- loop 1: carried slots [5]
  refine GC.loopK (α := Nat) (fun i => i ≤ acts.length ∧ ∀ j (h : j < i) (hj : j < acts.length), actB (gr ms) acts[j] = true) (fun i => [(5, .int .i64 i)]) [(1, _), (2, _)] (fun i => blk g2 25 [.slice A ms.length c] :: L) (fun i => acts.length - i) 0 Wkp Wsb ⟨Nat.zero_le _, fun _ h => by omega⟩ ?_
  rintro i ⟨hi, hok⟩
  refine GC.seq ?_
  refine GC.seq ?_
  refine GC.region ?_
  refine GL.v Wmv ?_
  refine GL.v Wmv ?_
  refine GL.v Wln ?_
  refine GL.v Wls ?_
  refine GL.nil ?_
  refine GE.seq ?_
  refine GC.ifs (fun h1 => ?_) (fun h1 => ?_)
  · -- T
    have hil : i < acts.length := by omega
    have hgl := gr_length ms
    obtain ⟨a, hae⟩ : ∃ a, acts[i] = a := ⟨_, rfl⟩
    have hno : actB (gr ms) a = false → actsB (gr ms) acts = false := fun h => actsB_no3 hil (by rw [hae]; exact h)
    refine GC.skip ?_
    refine GE.seq ?_
    refine GC.seq ?_
    refine GC.block ?_
    refine GC.seq ?_
    refine GC.region ?_
    refine GL.v Wmv ?_
    refine GL.v Wmv ?_
    refine GL.v Wix ?_
    refine GL.v Wle ?_
    rw [show actE.val acts[i] = .agg #[.int .i64 a.kind, .int .i64 a.node, .int .i64 a.value] by rw [hae]; rfl]
    refine GL.alloc rfl ?_; intro g6
    refine GL.store_varN rfl rfl rfl Wpk (by rfl) (by rfl) (by rfl) ?_
    refine GL.nil ?_
    refine GE.seq ?_
    refine GC.seq ?_
    refine GC.region ?_
    refine GL.v Wfa ?_
    refine GL.v Wlb ?_
    refine GL.nil ?_
    refine GE.seq ?_
    refine GC.block ?_
    refine GC.seq ?_
    refine GC.region ?_
    refine GL.v Weq ?_
    refine GL.v Wag ?_
    refine GL.nil ?_
    refine GE.seq ?_
    refine GC.ifs (fun h2 => ?_) (fun h2 => ?_)
    · -- TT
      refine GC.seq ?_
      refine GC.region ?_
      refine GL.v Wlba ?_
      refine GL.v Wfa ?_
      refine GL.v Wlb ?_
      refine GL.callF rfl rfl (isCell_spec _ _ _ _ _ (by first | assumption | exact RdG.imp (by assumption) Wim | exact RdG.of_pick Wpk Wpk) _ (by first | omega | exact SizeG.le (by assumption))) ?_
      refine GL.v Wnt ?_
      refine GL.v Wmv ?_
      refine GL.gs (fun h3 => ?_) (fun h3 => ?_)
      · -- TTt
        refine GL.unwant rfl rfl rfl rfl ?_
        refine GL.unwant rfl rfl rfl rfl ?_
        refine GL.unwant rfl rfl rfl rfl ?_
        refine GL.unwant rfl rfl rfl rfl ?_
        refine GL.v Wpt ?_
        refine GL.nil ?_
        refine GE.seq ?_
        refine GC.cond_true rfl ?_
        refine GC.seq ?_
        refine GC.region ?_
        refine GL.v Wag ?_
        refine GL.nil ?_
        refine GE.seq ?_
        refine GC.ret ?_
        refine GE.block_ret ?_
        refine GE.block_ret ?_
        refine GE.seq_ret ?_
        refine GE.loop_ret ?_
        refine GE.block_ret ?_
        refine GE.seq_ret ?_
        -- returns, path TTt
        refine GE.ret_tmp (L' := L) (.inl rfl) rfl rfl Wsb ?_
        exact ⟨by rw [hno (by simp [actB, *])], rfl⟩
      · -- TTf
        refine GL.want rfl rfl ?_
        refine GL.v Wfa ?_
        refine GL.want rfl rfl ?_
        refine GL.v Wlb ?_
        refine GL.want rfl rfl ?_
        refine GL.callF rfl rfl (inRange_spec _ _ _ _ _) ?_
        refine GL.want rfl rfl ?_
        refine GL.v Wnt ?_
        refine GL.v Wpf ?_
        refine GL.nil ?_
        refine GE.seq ?_
        refine GC.ifs (fun h4 => ?_) (fun h4 => ?_)
        · -- TTfT
          refine GC.seq ?_
          refine GC.region ?_
          refine GL.v Wag ?_
          refine GL.nil ?_
          refine GE.seq ?_
          refine GC.ret ?_
          refine GE.block_ret ?_
          refine GE.block_ret ?_
          refine GE.seq_ret ?_
          refine GE.loop_ret ?_
          refine GE.block_ret ?_
          refine GE.seq_ret ?_
          -- returns, path TTfT
          refine GE.ret_tmp (L' := L) (.inl rfl) rfl rfl Wsb ?_
          exact ⟨by rw [hno (by simp [actB, *])], rfl⟩
        · -- TTfF
          refine GC.skip ?_
          refine GE.block ?_
          refine GE.block ?_
          refine GE.seq ?_
          refine GC.region ?_
          refine GL.v Wmv ?_
          refine GL.v Wad ?_
          refine GL.v Wag ?_
          refine GL.nil ?_
          -- round of loop 1, path TTfF
          refine GE.round (i + 1) ⟨by omega, fun j h hj => ?_⟩ (by omega) Wkp Wsb
          by_cases e : j = i
          · subst e; rw [hae]; simp [actB, *]
          · exact hok j (by omega) hj
    · -- TF
      refine GC.seq ?_
      refine GC.region ?_
      refine GL.v Weq ?_
      refine GL.v Wag ?_
      refine GL.nil ?_
      refine GE.seq ?_
      refine GC.ifs (fun h3 => ?_) (fun h3 => ?_)
      · -- TFT
        refine GC.seq ?_
        refine GC.region ?_
        refine GL.v Wfa ?_
        refine GL.v Wlb ?_
        refine GL.v Wfa ?_
        refine GL.v Wlb ?_
        refine GL.v Wln ?_
        refine GL.v Wsu ?_
        refine GL.callF rfl rfl (inRange_spec _ _ _ _ _) ?_
        refine GL.v Wnt ?_
        refine GL.v Wmv ?_
        refine GL.gs (fun h4 => ?_) (fun h4 => ?_)
        · -- TFTt
          refine GL.unwant rfl rfl rfl rfl ?_
          refine GL.unwant rfl rfl rfl rfl ?_
          refine GL.unwant rfl rfl rfl rfl ?_
          refine GL.unwant rfl rfl rfl rfl ?_
          refine GL.unwant rfl rfl rfl rfl ?_
          refine GL.unwant rfl rfl rfl rfl ?_
          refine GL.unwant rfl rfl rfl rfl ?_
          refine GL.unwant rfl rfl rfl rfl ?_
          refine GL.v Wpt ?_
          refine GL.v Wmv ?_
          refine GL.unwant rfl rfl rfl rfl ?_
          refine GL.unwant rfl rfl rfl rfl ?_
          refine GL.unwant rfl rfl rfl rfl ?_
          refine GL.v Wpt ?_
          refine GL.nil ?_
          refine GE.seq ?_
          refine GC.cond_true rfl ?_
          refine GC.seq ?_
          refine GC.region ?_
          refine GL.v Wag ?_
          refine GL.nil ?_
          refine GE.seq ?_
          refine GC.ret ?_
          refine GE.block_ret ?_
          refine GE.block_ret ?_
          refine GE.seq_ret ?_
          refine GE.loop_ret ?_
          refine GE.block_ret ?_
          refine GE.seq_ret ?_
          -- returns, path TFTt
          refine GE.ret_tmp (L' := L) (.inl rfl) rfl rfl Wsb ?_
          exact ⟨by rw [hno (by simp [actB, *])], rfl⟩
        · -- TFTf
          have hn : 0 ≤ a.node ∧ a.node ≤ (ms.length : Int) - 1 := inB_iff.1 (by simpa using h4)
          have hkn : kindAt (gr ms) a.node = (ms[a.node.toNat]'(by omega)).kind := kindAt_gr (by omega)
          refine GL.want rfl rfl ?_
          refine GL.v Wfa ?_
          refine GL.want rfl rfl ?_
          refine GL.v Wlb ?_
          refine GL.want rfl rfl ?_
          refine GL.v Wfa ?_
          refine GL.want rfl rfl ?_
          refine GL.v Wlb ?_
          refine GL.want rfl rfl ?_
          refine GL.v Wix ?_
          refine GL.want rfl rfl ?_
          refine GL.v Wfa ?_
          refine GL.want rfl rfl ?_
          refine GL.v Wlef ?_
          refine GL.want rfl rfl ?_
          refine GL.v Wnq ?_
          refine GL.v Wpf ?_
          refine GL.v Wmv ?_
          refine GL.gs (fun h5 => ?_) (fun h5 => ?_)
          · -- TFTft
            refine GL.unwant rfl rfl rfl rfl ?_
            refine GL.unwant rfl rfl rfl rfl ?_
            refine GL.unwant rfl rfl rfl rfl ?_
            refine GL.v Wpt ?_
            refine GL.nil ?_
            refine GE.seq ?_
            refine GC.cond_true rfl ?_
            refine GC.seq ?_
            refine GC.region ?_
            refine GL.v Wag ?_
            refine GL.nil ?_
            refine GE.seq ?_
            refine GC.ret ?_
            refine GE.block_ret ?_
            refine GE.block_ret ?_
            refine GE.seq_ret ?_
            refine GE.loop_ret ?_
            refine GE.block_ret ?_
            refine GE.seq_ret ?_
            -- returns, path TFTft
            refine GE.ret_tmp (L' := L) (.inl rfl) rfl rfl Wsb ?_
            exact ⟨by rw [hno (by simp [actB, *])], rfl⟩
          · -- TFTff
            refine GL.want rfl rfl ?_
            refine GL.v Wfa ?_
            refine GL.want rfl rfl ?_
            refine GL.v Wlb ?_
            refine GL.want rfl rfl ?_
            refine GL.v Wnq ?_
            refine GL.v Wpf ?_
            refine GL.nil ?_
            refine GE.seq ?_
            refine GC.ifs (fun h6 => ?_) (fun h6 => ?_)
            · -- TFTffT
              refine GC.seq ?_
              refine GC.region ?_
              refine GL.v Wag ?_
              refine GL.nil ?_
              refine GE.seq ?_
              refine GC.ret ?_
              refine GE.block_ret ?_
              refine GE.block_ret ?_
              refine GE.seq_ret ?_
              refine GE.loop_ret ?_
              refine GE.block_ret ?_
              refine GE.seq_ret ?_
              -- returns, path TFTffT
              refine GE.ret_tmp (L' := L) (.inl rfl) rfl rfl Wsb ?_
              exact ⟨by rw [hno (by simp [actB, *])], rfl⟩
            · -- TFTffF
              refine GC.skip ?_
              refine GE.block ?_
              refine GE.block ?_
              refine GE.seq ?_
              refine GC.region ?_
              refine GL.v Wmv ?_
              refine GL.v Wad ?_
              refine GL.v Wag ?_
              refine GL.nil ?_
              -- round of loop 1, path TFTffF
              refine GE.round (i + 1) ⟨by omega, fun j h hj => ?_⟩ (by omega) Wkp Wsb
              by_cases e : j = i
              · subst e; rw [hae]; simp [actB, *]
              · exact hok j (by omega) hj
      · -- TFF
        refine GC.seq ?_
        refine GC.seq ?_
        refine GC.region ?_
        refine GL.v Weq ?_
        refine GL.v Wag ?_
        refine GL.nil ?_
        refine GE.seq ?_
        refine GC.ifs (fun h4 => ?_) (fun h4 => ?_)
        · -- TFFT
          refine GC.skip ?_
          refine GE.seq ?_
          refine GC.cond_true rfl ?_
          refine GC.seq ?_
          refine GC.region ?_
          refine GL.v Wfa ?_
          refine GL.v Wlb ?_
          refine GL.v Wnq ?_
          refine GL.v Wmv ?_
          refine GL.gs (fun h5 => ?_) (fun h5 => ?_)
          · -- TFFTt
            refine GL.unwant rfl rfl rfl rfl ?_
            refine GL.unwant rfl rfl rfl rfl ?_
            refine GL.unwant rfl rfl rfl rfl ?_
            refine GL.v Wpt ?_
            refine GL.nil ?_
            refine GE.seq ?_
            refine GC.cond_true rfl ?_
            refine GC.seq ?_
            refine GC.region ?_
            refine GL.v Wag ?_
            refine GL.nil ?_
            refine GE.seq ?_
            refine GC.ret ?_
            refine GE.block_ret ?_
            refine GE.block_ret ?_
            refine GE.seq_ret ?_
            refine GE.loop_ret ?_
            refine GE.block_ret ?_
            refine GE.seq_ret ?_
            -- returns, path TFFTt
            refine GE.ret_tmp (L' := L) (.inl rfl) rfl rfl Wsb ?_
            exact ⟨by rw [hno (by simp [actB, *])], rfl⟩
          · -- TFFTf
            refine GL.want rfl rfl ?_
            refine GL.v Wfa ?_
            refine GL.want rfl rfl ?_
            refine GL.v Wlb ?_
            refine GL.want rfl rfl ?_
            refine GL.v Wnq ?_
            refine GL.v Wpf ?_
            refine GL.nil ?_
            refine GE.seq ?_
            refine GC.ifs (fun h6 => ?_) (fun h6 => ?_)
            · -- TFFTfT
              refine GC.seq ?_
              refine GC.region ?_
              refine GL.v Wag ?_
              refine GL.nil ?_
              refine GE.seq ?_
              refine GC.ret ?_
              refine GE.block_ret ?_
              refine GE.block_ret ?_
              refine GE.seq_ret ?_
              refine GE.loop_ret ?_
              refine GE.block_ret ?_
              refine GE.seq_ret ?_
              -- returns, path TFFTfT
              refine GE.ret_tmp (L' := L) (.inl rfl) rfl rfl Wsb ?_
              exact ⟨by rw [hno (by simp [actB, *])], rfl⟩
            · -- TFFTfF
              refine GC.skip ?_
              refine GE.block ?_
              refine GE.block ?_
              refine GE.seq ?_
              refine GC.region ?_
              refine GL.v Wmv ?_
              refine GL.v Wad ?_
              refine GL.v Wag ?_
              refine GL.nil ?_
              -- round of loop 1, path TFFTfF
              refine GE.round (i + 1) ⟨by omega, fun j h hj => ?_⟩ (by omega) Wkp Wsb
              by_cases e : j = i
              · subst e; rw [hae]; simp [actB, *]
              · exact hok j (by omega) hj
        · -- TFFF
          refine GC.region ?_
          refine GL.v Weq ?_
          refine GL.v Wag ?_
          refine GL.nil ?_
          refine GE.seq ?_
          refine GC.ifs (fun h5 => ?_) (fun h5 => ?_)
          · -- TFFFT
            refine GC.seq ?_
            refine GC.region ?_
            refine GL.v Wfa ?_
            refine GL.v Wlb ?_
            refine GL.v Wnq ?_
            refine GL.v Wmv ?_
            refine GL.gs (fun h6 => ?_) (fun h6 => ?_)
            · -- TFFFTt
              refine GL.unwant rfl rfl rfl rfl ?_
              refine GL.unwant rfl rfl rfl rfl ?_
              refine GL.unwant rfl rfl rfl rfl ?_
              refine GL.v Wpt ?_
              refine GL.nil ?_
              refine GE.seq ?_
              refine GC.cond_true rfl ?_
              refine GC.seq ?_
              refine GC.region ?_
              refine GL.v Wag ?_
              refine GL.nil ?_
              refine GE.seq ?_
              refine GC.ret ?_
              refine GE.block_ret ?_
              refine GE.block_ret ?_
              refine GE.seq_ret ?_
              refine GE.loop_ret ?_
              refine GE.block_ret ?_
              refine GE.seq_ret ?_
              -- returns, path TFFFTt
              refine GE.ret_tmp (L' := L) (.inl rfl) rfl rfl Wsb ?_
              exact ⟨by rw [hno (by simp [actB, *])], rfl⟩
            · -- TFFFTf
              refine GL.want rfl rfl ?_
              refine GL.v Wfa ?_
              refine GL.want rfl rfl ?_
              refine GL.v Wlb ?_
              refine GL.want rfl rfl ?_
              refine GL.v Wnq ?_
              refine GL.v Wpf ?_
              refine GL.nil ?_
              refine GE.seq ?_
              refine GC.ifs (fun h7 => ?_) (fun h7 => ?_)
              · -- TFFFTfT
                refine GC.seq ?_
                refine GC.region ?_
                refine GL.v Wag ?_
                refine GL.nil ?_
                refine GE.seq ?_
                refine GC.ret ?_
                refine GE.block_ret ?_
                refine GE.block_ret ?_
                refine GE.seq_ret ?_
                refine GE.loop_ret ?_
                refine GE.block_ret ?_
                refine GE.seq_ret ?_
                -- returns, path TFFFTfT
                refine GE.ret_tmp (L' := L) (.inl rfl) rfl rfl Wsb ?_
                exact ⟨by rw [hno (by simp [actB, *])], rfl⟩
              · -- TFFFTfF
                refine GC.skip ?_
                refine GE.block ?_
                refine GE.block ?_
                refine GE.seq ?_
                refine GC.region ?_
                refine GL.v Wmv ?_
                refine GL.v Wad ?_
                refine GL.v Wag ?_
                refine GL.nil ?_
                -- round of loop 1, path TFFFTfF
                refine GE.round (i + 1) ⟨by omega, fun j h hj => ?_⟩ (by omega) Wkp Wsb
                by_cases e : j = i
                · subst e; rw [hae]; simp [actB, *]
                · exact hok j (by omega) hj
          · -- TFFFF
            refine GC.seq ?_
            refine GC.region ?_
            refine GL.v Wag ?_
            refine GL.nil ?_
            refine GE.seq ?_
            refine GC.ret ?_
            refine GE.block_ret ?_
            refine GE.block_ret ?_
            refine GE.seq_ret ?_
            refine GE.loop_ret ?_
            refine GE.block_ret ?_
            refine GE.seq_ret ?_
            -- returns, path TFFFF
            refine GE.ret_tmp (L' := L) (.inl rfl) rfl rfl Wsb ?_
            exact ⟨by rw [hno (by simp [actB, *])], rfl⟩
  · -- F
    refine GC.exit ?_
    refine GE.seq_exit ?_
    refine GE.loop_exit ?_
    refine GE.block_exit ?_
    refine GE.seq ?_
    refine GC.seq ?_
    refine GC.region ?_
    refine GL.v Wlba ?_
    refine GL.callF rfl rfl (svalidGraph_spec _ _ _ _ _ (by first | assumption | exact RdG.imp (by assumption) Wim | exact RdG.of_pick Wpk Wpk) (by assumption)) ?_
    refine GL.v Wmv ?_
    refine GL.gs (fun h2 => ?_) (fun h2 => ?_)
    · -- Ft
      refine GL.want rfl rfl ?_
      refine GL.v Wmv ?_
      refine GL.want rfl rfl ?_
      refine GL.v Wln ?_
      refine GL.want rfl rfl ?_
      refine GL.v Wlq ?_
      refine GL.v Wpt ?_
      refine GL.v Wag ?_
      refine GL.nil ?_
      refine GE.seq ?_
      refine GC.ret ?_
      -- returns, path Ft
      refine GE.ret_tmp (L' := L) (.inl rfl) rfl rfl Wsb ?_
      have hall : ∀ j (hj : j < acts.length), actB (gr ms) acts[j] = true := fun j hj => hok j (by omega) hj
      refine ⟨?_, rfl⟩
      congr 1
      by_cases hle : acts.length ≤ 30
      · rw [actsB_yes (by assumption) hle hall]; exact decide_eq_true (by omega)
      · rw [actsB_no2 hle]; exact decide_eq_false (by omega)
    · -- Ff
      refine GL.unwant rfl rfl rfl rfl ?_
      refine GL.unwant rfl rfl rfl rfl ?_
      refine GL.unwant rfl rfl rfl rfl ?_
      refine GL.v Wpf ?_
      refine GL.v Wag ?_
      refine GL.nil ?_
      refine GE.seq ?_
      refine GC.ret ?_
      -- returns, path Ff
      refine GE.ret_tmp (L' := L) (.inl rfl) rfl rfl Wsb ?_
      exact ⟨by rw [actsB_no1 (by assumption)], rfl⟩
theorem sValidActs_spec (w0 : World) (L : List Asn) (A : Option Addr) (c : Nat) (ms : List NdM) (hG : RdG w0 L A c ms) (B : Option Addr) (d : Nat) (acts : List Act3) (hX : Rd w0 L actE B d acts) (hS : SizeG ms) (ha : acts.length ≤ 1100000) :
    Tr Try.prog 14 #[.agg #[.slice A ms.length c], .slice B acts.length d] w0 L (fun v L' => v = .bool (actsB (gr ms) acts) ∧ L' = L) := by
  refine Tr.enter (args := [.agg #[.slice A ms.length c], .slice B acts.length d]) Try.func14 Try.ntmps14 rfl rfl ?_
  refine GC.seq ?_
  refine GC.region ?_
  refine GL.box_agg rfl rfl ?_; intro g2
  refine GL.v Wag ?_
  refine GL.nil ?_
  refine GE.seq ?_
  refine GC.seq ?_
  refine GC.region ?_
  refine GL.v Wlba ?_
  refine GL.v Wmv ?_
  refine GL.callF rfl rfl (svalidActs_spec _ _ _ _ _ (by first | assumption | exact RdG.imp (by assumption) Wim | exact RdG.of_pick Wpk Wpk) _ _ _ Wrd (by assumption) Wom) ?_
  refine GL.v Wag ?_
  refine GL.nil ?_
  refine GE.seq ?_
  refine GC.ret ?_
  -- returns, path 
  refine GE.ret_tmp (L' := L) (.inl rfl) rfl rfl Wsb ?_
  exact ⟨rfl, rfl⟩
end SG
