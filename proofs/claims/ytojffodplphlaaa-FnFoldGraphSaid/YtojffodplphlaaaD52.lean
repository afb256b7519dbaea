/- Contracts: folded graphs, of both. -/
import Derived.Test.YtojffodplphlaaaD23
import Derived.Test.YtojffodplphlaaaD32
import Derived.Test.YtojffodplphlaaaD51
import Derived.Test.YtojffodplphlaaaPlain15
namespace SG
open Go Go.RowKit Go.Proofs
set_option linter.unusedVariables false
set_option linter.unusedSimpArgs false
set_option maxRecDepth 100000
theorem iFoldGraph_spec (w0 : World) (L : List Asn) (A : Option Addr) (c : Nat) (ms : List NdM) (hG : RdG w0 L A c ms) (hS : SizeG ms) :
    Tr Try.prog 59 #[.agg #[.slice A ms.length c]] w0 L (fun v L' => ∃ B d ns, gr ns = folG (gr ms) ∧ v = .agg #[.slice B ns.length d] ∧ L' = row nodeE B d ns :: partsA ns :: L) := by
  have hN := hG.nodes
  have hSl := hS.1
  refine Tr.enter (args := [.agg #[.slice A ms.length c]]) Try.func59 Try.ntmps59 rfl rfl ?_
  refine GC.seq ?_
  refine GC.region ?_
  refine GL.box_agg rfl rfl ?_; intro g1
  refine GL.alloc rfl ?_; intro g2
  refine GL.nil ?_
  refine GE.seq ?_
  refine GC.seq ?_
  refine GC.seq ?_
  refine GC.region ?_
  refine GL.v Wlba ?_
  refine GL.callF rfl rfl (iValidGraph_spec _ _ _ _ _ (by first | assumption | exact RdG.imp (by assumption) Wim | exact RdG.of_pick Wpk Wpk) (by first | omega | exact SizeG.le (by assumption))) ?_
  refine GL.v Wnt ?_
  refine GL.nil ?_
  refine GE.seq ?_
  refine GC.ifs (fun h1 => ?_) (fun h1 => ?_)
  · -- T
    refine GC.seq ?_
    refine GC.region ?_
    refine GL.v (by exact EvP.r (Ev.build rfl (by first | exact bdPart ⟨_, _, _, _, _⟩ | exact bdReader _ _ _ | exact bdPart4 _ _ _ _ | exact bdForm _ _ _ | exact bdForm0 | exact bdGraph0 | exact bdGraph _ _ _ | exact bdNode1 _ | exact bdNode2 _ _ _ _ | exact bdHist0 | exact bdHist1 _ _ _ | exact bdHist2 _ _ _ _ | exact bdAct1 _ | exact bdAct2 _ _ | exact bdAct3 _ _ _ | exact bdAct13 _ _ | exact bdSes _ _ _ _ _ _ _ _ _))) ?_
    refine GL.store_varN rfl rfl rfl Wpk (by rfl) (by rfl) (by rfl) ?_
    refine GL.nil ?_
    refine GE.seq ?_
    refine GC.ret ?_
    refine GE.seq_ret ?_
    -- returns, path T
    refine GE.state (fun _ hs => hs.none_graph) ?_
    refine GE.ret_cell (L' := row nodeE none 0 [] :: partsA [] :: L) (.inl rfl) rfl rfl rfl (BlkRd.of_pick Wpk) (by rfl) Wsb ?_
    exact ⟨none, 0, [], by rw [folG_no h1]; rfl, rfl, rfl⟩
  · -- F
    have hV := validG_iff.1 h1
    have hl10 : ms.length ≤ 10 := by have := hV.1; simpa using this
    refine GC.skip ?_
    refine GE.seq ?_
    refine GC.seq ?_
    refine GC.region ?_
    refine GL.v Wlba ?_
    refine GL.call rfl rfl (copyOf_spec w0 _ A c ms (by first | assumption | exact RdG.imp (by assumption) Wim | exact RdG.of_pick Wpk Wpk) hS) ?_
    rintro _ _ ⟨B, ns0, hgr0, rfl, rfl⟩
    have hnl : ns0.length = ms.length := by have := congrArg List.length hgr0; simpa using this
    rw [hnl]
    refine GL.alloc rfl ?_; intro g3
    refine GL.store_varN rfl rfl rfl Wpk (by rfl) (by rfl) (by rfl) ?_
    refine GL.nil ?_
    refine GE.seq ?_
    refine GC.seq ?_
    refine GC.seq ?_
    refine GC.region ?_
    refine GL.v Wfa ?_
    refine GL.v Wlb ?_
    refine GL.v Wln ?_
    refine GL.v Wmv ?_
    refine GL.nil ?_
    refine GE.seq ?_
    refine GC.block ?_
    -- loop 1: carried slots [15]
    refine GC.loopK (α := Nat × List NdM) (fun x => x.1 ≤ ms.length ∧ x.2.length = ms.length ∧ gr x.2 = foldUp (gr ms) x.1) (fun x => [(15, .int .i64 x.1)]) [(2, _), (3, _), (13, _), (14, _)] (fun x => blk g3 25 [.slice B ms.length ms.length] :: row nodeE B ms.length x.2 :: partsA x.2 :: blk g1 25 [.slice A ms.length c] :: blk g2 25 [.slice none 0 0] :: L) (fun x => ms.length - x.1) (0, ns0) Wkp Wsb ⟨Nat.zero_le _, hnl, by rw [foldUp_zero]; exact hgr0⟩ ?_
    rintro ⟨i, ns⟩ ⟨hi, hn, hgr⟩
    dsimp only at hi hn hgr ⊢
    refine GC.seq ?_
    refine GC.region ?_
    refine GL.v Wls ?_
    refine GL.nil ?_
    refine GE.seq ?_
    refine GC.seq ?_
    refine GC.ifs (fun h2 => ?_) (fun h2 => ?_)
    · -- FT
      have hil : i < ms.length := by omega
      have hin : i < ns.length := by omega
      have hP := hG.parts i hil
      have hig : i < (gr ms).length := by simpa using hil
      have hni : (gr ns)[i]'(by simpa using hin) = (gr ms)[i] := by
        simp only [hgr]
        rw [foldUp_get, if_neg (by omega)]
      have hnk : ns[i].kind = ms[i].kind := by
        have := congrArg Nd.kind hni
        rw [gr_get, gr_get] at this
        exact this
      have hnode : (gr ms)[i] = ⟨ms[i].kind, ms[i].parts⟩ := gr_get _
      have hnd := validG_node hV hig
      rw [hnode] at hnd
      have hp12 : ms[i].parts.length ≤ 12 := hnd.1
      have hkz : ms[i].kind = 0 ↔ ms[i].parts.length = 0 := by
        rcases hV.2 i hig with h | h
        · rw [hnode] at h
          have h' : ms[i].parts = [] := h.2
          exact ⟨fun _ => by rw [h']; rfl, fun _ => h.1⟩
        · rw [hnode] at h
          have hv1 := h.2.1.1
          have hk1 : ms[i].kind = 1 ∨ ms[i].kind = 2 := h.1
          exact ⟨fun h0 => by omega, fun h0 => by have : 1 ≤ ms[i].parts.length := hv1; omega⟩
      refine GC.skip ?_
      refine GE.seq ?_
      refine GC.seq ?_
      refine GC.block ?_
      refine GC.seq ?_
      refine GC.region ?_
      refine GL.v Wmv ?_
      refine GL.v Wix ?_
      refine GL.v Wle ?_
      refine GL.alloc rfl ?_; intro g5
      refine GL.v Wag ?_
      refine GL.store_varN rfl rfl rfl Wpk (by rfl) (by rfl) (by rfl) ?_
      refine GL.nil ?_
      refine GE.seq ?_
      refine GC.seq ?_
      refine GC.region ?_
      refine GL.v Wfa ?_
      refine GL.v Wfa ?_
      refine GL.v Wlb ?_
      refine GL.v Wln ?_
      refine GL.v Wgt ?_
      refine GL.nil ?_
      refine GE.seq ?_
      refine GC.ifs (fun h3 => ?_) (fun h3 => ?_)
      · -- FTT
        have hk0 : ms[i].kind ≠ 0 := fun h0 => by have := hkz.1 h0; omega
        refine GC.region_any #[false, false, false, false, false, true, false, false, true] mixed ?_
        refine GA.take 0 #[false, false, true, true, true, true, false, false, false] rfl (by exact Ev.fieldAddr rfl) rfl rfl (by kernel_rfl) rfl (by kernel_rfl) (by kernel_rfl) (fun _ _ _ h => h) ?_
        refine GA.read 1 #[true, false, true, true, true, true, false, false, false] rfl (by exact Wlb) rfl rfl (by kernel_rfl) rfl (by kernel_rfl) (by kernel_rfl) (fun _ _ _ h => h) ?_
        refine GA.take 2 #[true, true, false, true, true, true, false, false, false] rfl (by exact Ev.move rfl) rfl rfl (by kernel_rfl) rfl (by kernel_rfl) (by kernel_rfl) (fun _ _ _ h => h) ?_
        refine GA.take 3 #[true, true, true, false, false, false, false, false, false] rfl (by exact Ev.fieldAddr rfl) rfl rfl (by kernel_rfl) rfl (by kernel_rfl) (by kernel_rfl) (fun _ _ _ h => h) ?_
        refine GA.read 4 #[true, true, true, true, false, false, false, false, false] rfl (by exact Wlb1) rfl rfl (by kernel_rfl) rfl (by kernel_rfl) (by kernel_rfl) (fun _ _ _ h => h) ?_
        refine GA.branch (rs := [5]) (JOk.live (by exact Wlb1) (JOk.live (by exact Wlb) JOk.nil)) (by kernel_rfl) (by simp) ?_
        refine GAs.cons rfl ?_ ?_
        · -- FTT op 5
          refine GL.call rfl rfl (iFoldFormula_spec _ _ _ _ _ Wrd) ?_
          rintro _ _ ⟨B30, d30, rfl, rfl⟩
          refine GL.nil ?_
          refine GE.any ?_
          refine GA.read 6 #[true, true, true, true, true, true, false, false, false] rfl (by exact Wix) rfl rfl (by kernel_rfl) rfl (by kernel_rfl) (by kernel_rfl) (fun _ _ _ h => h) ?_
          refine GA.take 7 #[true, true, true, true, true, true, true, false, false] rfl (by exact Ev.fieldAddr rfl) rfl rfl (by kernel_rfl) rfl (by kernel_rfl) (by kernel_rfl) (fun _ _ _ h => h) ?_
          refine GA.branch (rs := [8]) (JOk.live (by exact Wix) (JOk.dead (by kernel_rfl) (JOk.live (by exact Wlb) JOk.nil))) (by kernel_rfl) (by simp) ?_
          refine GAs.cons rfl ?_ ?_
          · -- FTT op 8
            refine GL.store_el_cell (⟨ns[i].kind, B30, d30, folF ms[i].parts⟩ : NdM) (u := .slice B30 (folF ms[i].parts).length d30) rfl rfl Wpk rfl rfl Wom (by decide) rfl ?_
            refine GL.nil ?_
            refine GE.any ?_
            refine GA.done (JOk.dead (by kernel_rfl) (JOk.dead (by kernel_rfl) (JOk.dead (by kernel_rfl) JOk.nil))) (by kernel_rfl) ?_
            refine GE.block ?_
            refine GE.seq ?_
            refine GC.region ?_
            refine GL.v Wad ?_
            refine GL.v Wmv ?_
            refine GL.nil ?_
            -- round of loop 1, path FTT
            have hmg : gr (ns.set i ⟨ns[i].kind, B30, d30, folF ms[i].parts⟩) = foldUp (gr ms) (i + 1) := by
              rw [← foldUp_set hig, ← hgr, hnode, folN_der (by exact hk0)]
              unfold gr
              rw [List.map_set]
              simp only [NdM.nd, hnk]
            refine GE.parts_set i ⟨ns[i].kind, B30, d30, folF ms[i].parts⟩ hin Wpk Wpk ?_
            refine GE.round (i + 1, ns.set i ⟨ns[i].kind, B30, d30, folF ms[i].parts⟩) ⟨by dsimp only; omega, by simp [hn], hmg⟩ (by dsimp only; omega) Wkp Wsb
          exact GAs.nil
        exact GAs.nil
      · -- FTF
        refine GC.skip ?_
        refine GE.block ?_
        refine GE.seq ?_
        refine GC.region ?_
        refine GL.v Wad ?_
        refine GL.v Wmv ?_
        refine GL.nil ?_
        -- round of loop 1, path FTF
        have hk0 : ms[i].kind = 0 := hkz.2 (by omega)
        refine GE.round (i + 1, ns) ⟨by dsimp only; omega, hn, hgr.trans (foldUp_skip hig (by rw [hnode]; exact folN_cell hk0))⟩ (by dsimp only; omega) Wkp Wsb
    · -- FF
      obtain rfl : i = ms.length := by omega
      refine GC.exit ?_
      refine GE.seq_exit ?_
      refine GE.loop_exit ?_
      refine GE.block_exit ?_
      refine GE.seq ?_
      refine GC.seq ?_
      refine GC.region ?_
      refine GL.v Wlba ?_
      refine GL.store_varN rfl rfl rfl Wpk (by rfl) (by rfl) (by rfl) ?_
      refine GL.nil ?_
      refine GE.seq ?_
      refine GC.ret ?_
      -- returns, path FF
      refine GE.ret_cell (L' := row nodeE B ms.length ns :: partsA ns :: L) (.inl rfl) rfl rfl rfl (BlkRd.of_pick Wpk) (by rfl) Wsb ?_
      exact ⟨_, _, ns, by rw [hgr, folG_yes h1, ← foldUp_full, gr_length], by rw [hn], rfl⟩
theorem sFoldGraph_spec (w0 : World) (L : List Asn) (A : Option Addr) (c : Nat) (ms : List NdM) (hG : RdG w0 L A c ms) (hS : SizeG ms) :
    Tr Try.prog 61 #[.agg #[.slice A ms.length c]] w0 L (fun v L' => ∃ B d ns, gr ns = folG (gr ms) ∧ v = .agg #[.slice B ns.length d] ∧ L' = row nodeE B d ns :: partsA ns :: L) := by
  have hN := hG.nodes
  have hSl := hS.1
  refine Tr.enter (args := [.agg #[.slice A ms.length c]]) Try.func61 Try.ntmps61 rfl rfl ?_
  refine GC.seq ?_
  refine GC.region ?_
  refine GL.box_agg rfl rfl ?_; intro g1
  refine GL.alloc rfl ?_; intro g2
  refine GL.nil ?_
  refine GE.seq ?_
  refine GC.seq ?_
  refine GC.seq ?_
  refine GC.region ?_
  refine GL.v Wlba ?_
  refine GL.callF rfl rfl (svalidGraph_spec _ _ _ _ _ (by first | assumption | exact RdG.imp (by assumption) Wim | exact RdG.of_pick Wpk Wpk) (by assumption)) ?_
  refine GL.v Wnt ?_
  refine GL.nil ?_
  refine GE.seq ?_
  refine GC.ifs (fun h1 => ?_) (fun h1 => ?_)
  · -- T
    refine GC.seq ?_
    refine GC.region ?_
    refine GL.v (by exact EvP.r (Ev.build rfl (by first | exact bdPart ⟨_, _, _, _, _⟩ | exact bdReader _ _ _ | exact bdPart4 _ _ _ _ | exact bdForm _ _ _ | exact bdForm0 | exact bdGraph0 | exact bdGraph _ _ _ | exact bdNode1 _ | exact bdNode2 _ _ _ _ | exact bdHist0 | exact bdHist1 _ _ _ | exact bdHist2 _ _ _ _ | exact bdAct1 _ | exact bdAct2 _ _ | exact bdAct3 _ _ _ | exact bdAct13 _ _ | exact bdSes _ _ _ _ _ _ _ _ _))) ?_
    refine GL.store_varN rfl rfl rfl Wpk (by rfl) (by rfl) (by rfl) ?_
    refine GL.nil ?_
    refine GE.seq ?_
    refine GC.ret ?_
    refine GE.seq_ret ?_
    -- returns, path T
    refine GE.state (fun _ hs => hs.none_graph) ?_
    refine GE.ret_cell (L' := row nodeE none 0 [] :: partsA [] :: L) (.inl rfl) rfl rfl rfl (BlkRd.of_pick Wpk) (by rfl) Wsb ?_
    exact ⟨none, 0, [], by rw [folG_no h1]; rfl, rfl, rfl⟩
  · -- F
    have hV := validG_iff.1 h1
    have hl10 : ms.length ≤ 10 := by have := hV.1; simpa using this
    refine GC.skip ?_
    refine GE.seq ?_
    refine GC.seq ?_
    refine GC.region ?_
    refine GL.v Wlba ?_
    refine GL.call rfl rfl (copyGraph_spec w0 _ A c ms (by first | assumption | exact RdG.imp (by assumption) Wim | exact RdG.of_pick Wpk Wpk) hS) ?_
    rintro _ _ ⟨B, dd, ns0, hgr0, rfl, rfl⟩
    have hnl : ns0.length = ms.length := by have := congrArg List.length hgr0; simpa using this
    rw [hnl]
    refine GL.alloc rfl ?_; intro g3
    refine GL.store_varN rfl rfl rfl Wpk (by rfl) (by rfl) (by rfl) ?_
    refine GL.nil ?_
    refine GE.seq ?_
    refine GC.seq ?_
    refine GC.seq ?_
    refine GC.region ?_
    refine GL.v Wag ?_
    refine GL.nil ?_
    refine GE.seq ?_
    refine GC.block ?_
    -- loop 1: carried slots [4]
    refine GC.loopK (α := Nat × List NdM) (fun x => x.1 ≤ ms.length ∧ x.2.length = ms.length ∧ gr x.2 = foldUp (gr ms) x.1) (fun x => [(4, .int .i64 x.1)]) [(1, _), (2, _), (3, _)] (fun x => blk g3 25 [.slice B ms.length dd] :: row nodeE B dd x.2 :: partsA x.2 :: blk g1 25 [.slice A ms.length c] :: blk g2 25 [.slice none 0 0] :: L) (fun x => ms.length - x.1) (0, ns0) Wkp Wsb ⟨Nat.zero_le _, hnl, by rw [foldUp_zero]; exact hgr0⟩ ?_
    rintro ⟨i, ns⟩ ⟨hi, hn, hgr⟩
    dsimp only at hi hn hgr ⊢
    refine GC.seq ?_
    refine GC.seq ?_
    refine GC.region ?_
    refine GL.v Wmv ?_
    refine GL.v Wfa ?_
    refine GL.v Wlb ?_
    refine GL.v Wln ?_
    refine GL.v Wls ?_
    refine GL.nil ?_
    refine GE.seq ?_
    refine GC.ifs (fun h2 => ?_) (fun h2 => ?_)
    · -- FT
      have hil : i < ms.length := by omega
      have hin : i < ns.length := by omega
      have hP := hG.parts i hil
      have hig : i < (gr ms).length := by simpa using hil
      have hni : (gr ns)[i]'(by simpa using hin) = (gr ms)[i] := by
        simp only [hgr]
        rw [foldUp_get, if_neg (by omega)]
      have hnk : ns[i].kind = ms[i].kind := by
        have := congrArg Nd.kind hni
        rw [gr_get, gr_get] at this
        exact this
      have hnode : (gr ms)[i] = ⟨ms[i].kind, ms[i].parts⟩ := gr_get _
      have hnd := validG_node hV hig
      rw [hnode] at hnd
      have hp12 : ms[i].parts.length ≤ 12 := hnd.1
      refine GC.skip ?_
      refine GE.seq ?_
      refine GC.seq ?_
      refine GC.block ?_
      refine GC.seq ?_
      refine GC.region ?_
      refine GL.v Wfa ?_
      refine GL.v Wlb ?_
      refine GL.v Wmv ?_
      refine GL.v Wix ?_
      refine GL.v Wfa ?_
      refine GL.v Wlef ?_
      refine GL.v Wnq ?_
      refine GL.nil ?_
      refine GE.seq ?_
      refine GC.ifs (fun h3 => ?_) (fun h3 => ?_)
      · -- FTT
        have hk0 : ms[i].kind ≠ 0 := by rw [← hnk]; exact h3
        refine GC.region_any #[false, false, false, false, false, false, false, false, false, true, false, false, true] mixed ?_
        refine GA.take 0 #[false, false, true, true, true, true, true, true, true, true, false, false, false] rfl (by exact Ev.fieldAddr rfl) rfl rfl (by kernel_rfl) rfl (by kernel_rfl) (by kernel_rfl) (fun _ _ _ h => h) ?_
        refine GA.read 1 #[true, false, true, true, true, true, true, true, true, true, false, false, false] rfl (by exact Wlb) rfl rfl (by kernel_rfl) rfl (by kernel_rfl) (by kernel_rfl) (fun _ _ _ h => h) ?_
        refine GA.take 2 #[true, true, false, true, true, true, true, true, true, true, false, false, false] rfl (by exact Ev.move rfl) rfl rfl (by kernel_rfl) rfl (by kernel_rfl) (by kernel_rfl) (fun _ _ _ h => h) ?_
        refine GA.take 3 #[true, true, true, false, false, true, false, false, false, false, false, false, false] rfl (by exact Ev.fieldAddr rfl) rfl rfl (by kernel_rfl) rfl (by kernel_rfl) (by kernel_rfl) (fun _ _ _ h => h) ?_
        refine GA.read 4 #[true, true, true, true, false, true, false, false, false, false, false, false, false] rfl (by exact Wlb) rfl rfl (by kernel_rfl) rfl (by kernel_rfl) (by kernel_rfl) (fun _ _ _ h => h) ?_
        refine GA.take 5 #[true, true, true, true, true, false, false, false, false, false, false, false, false] rfl (by exact Ev.move rfl) rfl rfl (by kernel_rfl) rfl (by kernel_rfl) (by kernel_rfl) (fun _ _ _ h => h) ?_
        refine GA.read 6 #[true, true, true, true, true, true, false, false, false, false, false, false, false] rfl (by exact Wix) rfl rfl (by kernel_rfl) rfl (by kernel_rfl) (by kernel_rfl) (fun _ _ _ h => h) ?_
        refine GA.take 7 #[true, true, true, true, true, true, true, false, false, false, false, false, false] rfl (by exact Ev.fieldAddr rfl) rfl rfl (by kernel_rfl) rfl (by kernel_rfl) (by kernel_rfl) (fun _ _ _ h => h) ?_
        refine GA.read 8 #[true, true, true, true, true, true, true, true, false, false, false, false, false] rfl (by exact Wlef1) rfl rfl (by kernel_rfl) rfl (by kernel_rfl) (by kernel_rfl) (fun _ _ _ h => h) ?_
        refine GA.branch (rs := [9]) (JOk.live (by exact Wlef1) (JOk.live (by exact Wix) (JOk.live (by exact Wlb) (JOk.live (by exact Wlb) JOk.nil)))) (by kernel_rfl) (by simp) ?_
        refine GAs.cons rfl ?_ ?_
        · -- FTT op 9
          refine GL.call rfl rfl (sFoldFormula_spec _ _ _ _ _ Wrd Wom) ?_
          rintro _ _ ⟨B34, d34, rfl, rfl⟩
          refine GL.nil ?_
          refine GE.any ?_
          refine GA.read 10 #[true, true, true, true, true, true, true, true, true, true, false, false, false] rfl (by exact Wix) rfl rfl (by kernel_rfl) rfl (by kernel_rfl) (by kernel_rfl) (fun _ _ _ h => h) ?_
          refine GA.take 11 #[true, true, true, true, true, true, true, true, true, true, true, false, false] rfl (by exact Ev.fieldAddr rfl) rfl rfl (by kernel_rfl) rfl (by kernel_rfl) (by kernel_rfl) (fun _ _ _ h => h) ?_
          refine GA.branch (rs := [12]) (JOk.live (by exact Wix) (JOk.dead (by kernel_rfl) (JOk.dead (by kernel_rfl) (JOk.dead (by kernel_rfl) (JOk.live (by exact Wlb) JOk.nil))))) (by kernel_rfl) (by simp) ?_
          refine GAs.cons rfl ?_ ?_
          · -- FTT op 12
            refine GL.store_el_cell (⟨ns[i].kind, B34, d34, folF ms[i].parts⟩ : NdM) (u := .slice B34 (folF ms[i].parts).length d34) rfl rfl Wpk rfl rfl Wom (by decide) rfl ?_
            refine GL.nil ?_
            refine GE.any ?_
            refine GA.done (JOk.dead (by kernel_rfl) (JOk.dead (by kernel_rfl) (JOk.dead (by kernel_rfl) (JOk.dead (by kernel_rfl) (JOk.dead (by kernel_rfl) JOk.nil))))) (by kernel_rfl) ?_
            refine GE.block ?_
            refine GE.seq ?_
            refine GC.region ?_
            refine GL.v Wmv ?_
            refine GL.v Wad ?_
            refine GL.v Wag ?_
            refine GL.nil ?_
            -- round of loop 1, path FTT
            have hmg : gr (ns.set i ⟨ns[i].kind, B34, d34, folF ms[i].parts⟩) = foldUp (gr ms) (i + 1) := by
              rw [← foldUp_set hig, ← hgr, hnode, folN_der (by exact hk0)]
              unfold gr
              rw [List.map_set]
              simp only [NdM.nd, hnk]
            refine GE.parts_set i ⟨ns[i].kind, B34, d34, folF ms[i].parts⟩ hin Wpk Wpk ?_
            refine GE.round (i + 1, ns.set i ⟨ns[i].kind, B34, d34, folF ms[i].parts⟩) ⟨by dsimp only; omega, by simp [hn], hmg⟩ (by dsimp only; omega) Wkp Wsb
          exact GAs.nil
        exact GAs.nil
      · -- FTF
        refine GC.skip ?_
        refine GE.block ?_
        refine GE.seq ?_
        refine GC.region ?_
        refine GL.v Wmv ?_
        refine GL.v Wad ?_
        refine GL.v Wag ?_
        refine GL.nil ?_
        -- round of loop 1, path FTF
        have hk0 : ms[i].kind = 0 := by rw [← hnk]; exact h3
        refine GE.round (i + 1, ns) ⟨by dsimp only; omega, hn, hgr.trans (foldUp_skip hig (by rw [hnode]; exact folN_cell hk0))⟩ (by dsimp only; omega) Wkp Wsb
    · -- FF
      obtain rfl : i = ms.length := by omega
      refine GC.exit ?_
      refine GE.seq_exit ?_
      refine GE.loop_exit ?_
      refine GE.block_exit ?_
      refine GE.seq ?_
      refine GC.seq ?_
      refine GC.region ?_
      refine GL.v Wlba ?_
      refine GL.store_varN rfl rfl rfl Wpk (by rfl) (by rfl) (by rfl) ?_
      refine GL.nil ?_
      refine GE.seq ?_
      refine GC.ret ?_
      -- returns, path FF
      refine GE.ret_cell (L' := row nodeE B dd ns :: partsA ns :: L) (.inl rfl) rfl rfl rfl (BlkRd.of_pick Wpk) (by rfl) Wsb ?_
      exact ⟨_, _, ns, by rw [hgr, folG_yes h1, ← foldUp_full, gr_length], by rw [hn], rfl⟩
theorem sizeG_fold {ns : List NdM} {gs : List Nd} (h : gr ns = folG gs) : SizeG ns := by
  have hs := folG_small (gs := gs)
  rw [← h] at hs
  refine SizeG.small (by have := hs.1; simpa using this) fun m hm => ?_
  exact hs.2 m.nd (List.mem_map_of_mem (f := NdM.nd) hm)
end SG
