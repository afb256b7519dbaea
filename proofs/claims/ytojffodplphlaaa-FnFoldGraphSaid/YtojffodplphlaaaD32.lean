/- Contracts: copies of graphs; one more node; of both. -/
import Derived.Test.YtojffodplphlaaaDA
import Derived.Test.YtojffodplphlaaaD4
import Derived.Test.YtojffodplphlaaaD11
import Derived.Test.YtojffodplphlaaaD13
import Derived.Test.YtojffodplphlaaaPB
namespace SG
open Go Go.RowKit Go.Proofs
set_option linter.unusedVariables false
set_option linter.unusedSimpArgs false
set_option maxRecDepth 100000
theorem copyOf_spec (w0 : World) (L : List Asn) (A : Option Addr) (c : Nat) (ms : List NdM) (hG : RdG w0 L A c ms) (hS : SizeG ms) :
    Tr Try.prog 114 #[.agg #[.slice A ms.length c]] w0 L (fun v L' => ∃ B ns, gr ns = gr ms ∧ v = .agg #[.slice B ns.length ns.length] ∧ L' = row nodeE B ns.length ns :: partsA ns :: L) := by
  have hN := hG.nodes
  have hSl := hS.1
  refine Tr.enter (args := [.agg #[.slice A ms.length c]]) Try.func114 Try.ntmps114 rfl rfl ?_
  refine GC.seq ?_
  refine GC.region ?_
  refine GL.box_agg rfl rfl ?_; intro g1
  refine GL.alloc rfl ?_; intro g2
  refine GL.nil ?_
  refine GE.seq ?_
  refine GC.seq ?_
  refine GC.region ?_
  refine GL.v Wfa ?_
  refine GL.v Wlb ?_
  refine GL.v Wln ?_
  refine GL.make rfl rfl Wik Wik (by omega) (by omega) rfl ?_; intro g9
  refine GL.v (by exact EvP.r (Ev.build rfl (by first | exact bdPart ⟨_, _, _, _, _⟩ | exact bdReader _ _ _ | exact bdPart4 _ _ _ _ | exact bdForm _ _ _ | exact bdForm0 | exact bdGraph0 | exact bdGraph _ _ _ | exact bdNode1 _ | exact bdNode2 _ _ _ _ | exact bdHist0 | exact bdHist1 _ _ _ | exact bdHist2 _ _ _ _))) ?_
  refine GL.alloc rfl ?_; intro g3
  refine GL.store_varN rfl rfl rfl Wpk (by rfl) (by rfl) (by rfl) ?_
  refine GL.nil ?_
  refine GE.seq ?_
  refine GC.seq ?_
  refine GC.seq ?_
  refine GC.region ?_
  refine GL.v Wfa ?_
  refine GL.v Wlb ?_
  refine GL.v Wln ?_
  refine GL.v Wmv ?_
  refine GL.nil ?_
  refine GE.seq ?_
  refine GC.block ?_
  -- loop 1: carried slots [14]
  refine GC.parts0 ?_
  refine GC.loopK (α := Nat × List NdM) (fun x => x.1 ≤ ms.length ∧ x.2.length = x.1 ∧ gr x.2 = gr (ms.take x.1)) (fun x => [(14, .int .i64 x.1)]) [(2, _), (3, _), (12, _), (13, _)] (fun x => row nodeE (some ⟨g9, 0, none⟩) ms.length (x.2 ++ List.replicate (ms.length - x.1) ⟨0, none, 0, []⟩) :: partsA x.2 :: blk g3 25 [.slice (some ⟨g9, 0, none⟩) ms.length ms.length] :: blk g1 25 [.slice A ms.length c] :: blk g2 25 [.slice none 0 0] :: L) (fun x => ms.length - x.1) (0, []) Wkp Wsb ⟨Nat.zero_le _, rfl, rfl⟩ ?_
  rintro ⟨i, ns⟩ ⟨hi, hnl, hgr⟩
  dsimp only at hi hnl hgr ⊢
  have hfl : (ns ++ List.replicate (ms.length - i) (⟨0, none, 0, []⟩ : NdM)).length = ms.length := by simp; omega
  refine GC.seq ?_
  refine GC.region ?_
  refine GL.v Wls ?_
  refine GL.nil ?_
  refine GE.seq ?_
  refine GC.seq ?_
  refine GC.ifs (fun h1 => ?_) (fun h1 => ?_)
  · -- T
    have hil : i < ms.length := by omega
    have hP := hG.parts i hil
    have hSi := hS.2 i hil
    refine GC.skip ?_
    refine GE.seq ?_
    refine GC.seq ?_
    refine GC.block ?_
    refine GC.seq ?_
    refine GC.region ?_
    refine GL.v Wmv ?_
    refine GL.v Wix ?_
    refine GL.v Wle ?_
    refine GL.alloc rfl ?_; intro g5
    refine GL.v Wag ?_
    refine GL.store_varN rfl rfl rfl Wpk (by rfl) (by rfl) (by rfl) ?_
    refine GL.nil ?_
    refine GE.seq ?_
    refine GC.region_any #[false, false, false, false, false, false, false, false, true, false, false, false, true] mixed ?_
    refine GA.take 0 #[false, false, true, true, true, true, true, true, true, true, true, false, false] rfl (by exact Ev.fieldAddr rfl) rfl rfl (by kernel_rfl) rfl (by kernel_rfl) (by kernel_rfl) (fun _ _ _ h => h) ?_
    refine GA.read 1 #[true, false, true, true, true, true, true, true, true, true, true, false, false] rfl (by exact Wlb) rfl rfl (by kernel_rfl) rfl (by kernel_rfl) (by kernel_rfl) (fun _ _ _ h => h) ?_
    refine GA.take 2 #[true, true, false, true, true, true, true, true, true, true, true, false, false] rfl (by exact Ev.move rfl) rfl rfl (by kernel_rfl) rfl (by kernel_rfl) (by kernel_rfl) (fun _ _ _ h => h) ?_
    refine GA.take 3 #[true, true, true, false, false, true, true, true, true, true, false, false, false] rfl (by exact Ev.fieldAddr rfl) rfl rfl (by kernel_rfl) rfl (by kernel_rfl) (by kernel_rfl) (fun _ _ _ h => h) ?_
    refine GA.read 4 #[true, true, true, true, false, true, true, true, true, true, false, false, false] rfl (by exact Wlb) rfl rfl (by kernel_rfl) rfl (by kernel_rfl) (by kernel_rfl) (fun _ _ _ h => h) ?_
    refine GA.take 5 #[true, true, true, true, true, false, false, false, false, false, false, false, false] rfl (by exact Ev.fieldAddr rfl) rfl rfl (by kernel_rfl) rfl (by kernel_rfl) (by kernel_rfl) (fun _ _ _ h => h) ?_
    refine GA.take 6 #[true, true, true, true, true, true, false, false, false, false, false, false, false] rfl (by exact Ev.fieldAddr rfl) rfl rfl (by kernel_rfl) rfl (by kernel_rfl) (by kernel_rfl) (fun _ _ _ h => h) ?_
    refine GA.read 7 #[true, true, true, true, true, true, true, false, false, false, false, false, false] rfl (by exact Wlb) rfl rfl (by kernel_rfl) rfl (by kernel_rfl) (by kernel_rfl) (fun _ _ _ h => h) ?_
    refine GA.branch (rs := [8]) (JOk.live (by exact Wlb) (JOk.live (by exact Wlb) (JOk.live (by exact Wlb) JOk.nil))) (by kernel_rfl) (by simp) ?_
    refine GAs.cons rfl ?_ ?_
    · -- T op 8
      refine GL.call rfl rfl (clonePart_spec _ _ _ _ _ Wrd Wom) ?_
      rintro _ _ ⟨B27, rfl, rfl⟩
      refine GL.nil ?_
      refine GE.any ?_
      refine GA.take 9 #[true, true, true, true, true, true, true, true, true, false, false, false, false] rfl (by exact Ev.build rfl (by first | exact bdPart ⟨_, _, _, _, _⟩ | exact bdReader _ _ _ | exact bdPart4 _ _ _ _ | exact bdForm _ _ _ | exact bdForm0 | exact bdGraph0 | exact bdGraph _ _ _ | exact bdNode1 _ | exact bdNode2 _ _ _ _ | exact bdHist0 | exact bdHist1 _ _ _ | exact bdHist2 _ _ _ _)) rfl rfl (by kernel_rfl) rfl (by kernel_rfl) (by kernel_rfl) (fun _ _ _ h => h) ?_
      refine GA.take 10 #[true, true, true, true, true, true, true, true, true, true, false, false, false] rfl (by exact Ev.build rfl (by first | exact bdPart ⟨_, _, _, _, _⟩ | exact bdReader _ _ _ | exact bdPart4 _ _ _ _ | exact bdForm _ _ _ | exact bdForm0 | exact bdGraph0 | exact bdGraph _ _ _ | exact bdNode1 _ | exact bdNode2 _ _ _ _ | exact bdHist0 | exact bdHist1 _ _ _ | exact bdHist2 _ _ _ _)) rfl rfl (by kernel_rfl) rfl (by kernel_rfl) (by kernel_rfl) (fun _ _ _ h => h) ?_
      refine GA.read 11 #[true, true, true, true, true, true, true, true, true, true, true, false, false] rfl (by exact Wix) rfl rfl (by kernel_rfl) rfl (by kernel_rfl) (by kernel_rfl) (fun _ _ _ h => h) ?_
      refine GA.branch (rs := [12]) (JOk.live (by exact Wix) (JOk.dead (by kernel_rfl) (JOk.live (by exact Wlb) (JOk.live (by exact Wlb) JOk.nil)))) (by kernel_rfl) (by simp) ?_
      refine GAs.cons rfl ?_ ?_
      · -- T op 12
        refine GL.store_el (v' := ⟨ms[i].kind, B27, ms[i].parts.length, ms[i].parts⟩) rfl rfl Wpk rfl rfl rfl Wom ?_
        refine GL.nil ?_
        refine GE.any ?_
        refine GA.done (JOk.dead (by kernel_rfl) (JOk.dead (by kernel_rfl) (JOk.dead (by kernel_rfl) (JOk.dead (by kernel_rfl) JOk.nil)))) (by kernel_rfl) ?_
        refine GE.block ?_
        refine GE.seq ?_
        refine GC.region ?_
        refine GL.v Wad ?_
        refine GL.v Wmv ?_
        refine GL.nil ?_
        -- round of loop 1, path T
        refine GE.parts_snoc ⟨ms[i].kind, B27, ms[i].parts.length, ms[i].parts⟩ Wpk Wpk ?_
        rw [fill2_set _ _ _ _ _ hnl hil]
        refine GE.round (i + 1, ns ++ [⟨ms[i].kind, B27, ms[i].parts.length, ms[i].parts⟩]) ⟨by dsimp only; omega, by simp [hnl], ?_⟩ (by dsimp only; omega) Wkp Wsb
        dsimp only
        rw [gr_take_succ hil, ← hgr]
        simp [gr, NdM.nd]
      exact GAs.nil
    exact GAs.nil
  · -- F
    have hie : i = ms.length := by omega
    subst hie
    rw [List.take_length] at hgr
    rw [Nat.sub_self, List.replicate_zero, List.append_nil, ← hnl]
    refine GC.exit ?_
    refine GE.seq_exit ?_
    refine GE.loop_exit ?_
    refine GE.block_exit ?_
    refine GE.seq ?_
    refine GC.seq ?_
    refine GC.region ?_
    refine GL.v Wlba ?_
    refine GL.store_varN rfl rfl rfl Wpk (by rfl) (by rfl) (by rfl) ?_
    refine GL.nil ?_
    refine GE.seq ?_
    refine GC.ret ?_
    -- returns, path F
    refine GE.ret_cell (L' := row nodeE (some ⟨g9, 0, none⟩) ns.length ns :: partsA ns :: L) (.inl rfl) rfl rfl rfl (BlkRd.of_pick Wpk) (by rfl) Wsb ?_
    exact ⟨_, ns, hgr, rfl, rfl⟩
theorem gr_append (ms ns : List NdM) : gr (ms ++ ns) = gr ms ++ gr ns := by simp [gr]
theorem St.none_graph {w0 w : World} {L : List Asn} (h : St w0 w L) : St w0 w (row nodeE none 0 [] :: partsA [] :: L) := St.empty nodeE none h.partsA_nil
theorem GL.parts_snoc {P : Program} {Q : Exit → Act → World → Prop} {w0 : World} {N : Nat} {fs : List Kf} {F : Env} {ops : Array Oper} {l : List Oper} {L L1 L2 : List Asn} {ms : List NdM} (m : NdM) (p : Pick L m.rowA L1) (q : Pick L1 (partsA ms) L2) (h : GL P Q w0 N false fs ops l F (partsA (ms ++ [m]) :: L2)) : GL P Q w0 N false fs ops l F L :=
  GL.state (fun w hs => St.parts_snoc (St.pick (A := partsA ms) (L := m.rowA :: L1) (L' := m.rowA :: L2) (hs.pick p) (.tail q) |>.pick (.tail .head))) h
theorem SizeG.snoc {ms : List NdM} {m : NdM} (hS : SizeG ms) (hl : ms.length ≤ 1048576) (hp : m.parts.length ≤ 1100000) : SizeG (ms ++ [m]) := ⟨by simp; omega, fun i hi => by
  rw [List.getElem_append]
  split
  · exact hS.2 i _
  · simp only [List.getElem_singleton]; exact hp⟩
theorem copyNode_spec (w0 : World) (L : List Asn) (k : Int) (E : Option Addr) (f : Nat) (ps : List Part) (hP : Rd w0 L partE E f ps) (hp : ps.length ≤ 1100000) :
    Tr Try.prog 152 #[.agg #[.int .i64 k, .slice E ps.length f]] w0 L (fun v L' => ∃ B d, v = .agg #[.int .i64 k, .slice B ps.length d] ∧ L' = row partE B d ps :: L) := by
  refine Tr.enter (args := [.agg #[.int .i64 k, .slice E ps.length f]]) Try.func152 Try.ntmps152 rfl rfl ?_
  refine GC.seq ?_
  refine GC.region ?_
  refine GL.box_agg rfl rfl ?_; intro g1
  refine GL.alloc rfl ?_; intro g2
  refine GL.nil ?_
  refine GE.seq ?_
  refine GC.seq ?_
  refine GC.region_any #[false, false, true, false, false, false, true, false, false, true] mixed ?_
  refine GA.take 0 #[false, false, true, true, true, true, true, true, false, false] rfl (by exact Ev.fieldAddr rfl) rfl rfl (by kernel_rfl) rfl (by kernel_rfl) (by kernel_rfl) (fun _ _ _ h => h) ?_
  refine GA.read 1 #[true, false, true, true, true, true, true, true, false, false] rfl (by exact Wlb) rfl rfl (by kernel_rfl) rfl (by kernel_rfl) (by kernel_rfl) (fun _ _ _ h => h) ?_
  refine GA.take 3 #[true, true, true, false, false, false, false, false, false, false] rfl (by exact Ev.fieldAddr rfl) rfl rfl (by kernel_rfl) rfl (by kernel_rfl) (by kernel_rfl) (fun _ _ _ h => h) ?_
  refine GA.take 4 #[true, true, true, true, false, false, false, false, false, false] rfl (by exact Ev.fieldAddr rfl) rfl rfl (by kernel_rfl) rfl (by kernel_rfl) (by kernel_rfl) (fun _ _ _ h => h) ?_
  refine GA.read 5 #[true, true, true, true, true, false, false, false, false, false] rfl (by exact Wlb) rfl rfl (by kernel_rfl) rfl (by kernel_rfl) (by kernel_rfl) (fun _ _ _ h => h) ?_
  refine GA.branch (rs := [2]) (JOk.live (by exact Wlb) (JOk.live (by exact Wlb) JOk.nil)) (by kernel_rfl) (by simp) ?_
  refine GAs.cons rfl ?_ ?_
  · --  op 2
    refine GL.buildSlice rfl (by first | exact bsInt0 | exact bsInt1 _ | exact bsInt2 _ _ | exact bsInt3 _ _ _ | exact bsInt4 _ _ _ _ | exact bsInt5 _ _ _ _ _ | exact bsInt6 _ _ _ _ _ _ | exact bsInt7 _ _ _ _ _ _ _ | exact bsInt8 _ _ _ _ _ _ _ _ | exact bsInt9 _ _ _ _ _ _ _ _ _ | exact bsInt10 _ _ _ _ _ _ _ _ _ _ | exact bsPart0 | exact bsPart1 ⟨_, _, _, _, _⟩ | exact bsNode1 ⟨_, _, _, _⟩ | exact bsPtr3 _ _ _ | exact bsSl0 | exact bsSl1 ⟨_, _, _⟩) rfl (by decide) rfl ?_; intro g5
    refine GL.nil ?_
    refine GE.any ?_
    refine GA.branch (rs := [6]) (JOk.live (by exact Wlb) (JOk.live (by exact Wlb) JOk.nil)) (by kernel_rfl) (by simp) ?_
    refine GAs.cons rfl ?_ ?_
    · --  op 6
      first | (refine GL.append rfl rfl Wpk (by assumption) Wim (by first | rfl | (simp; done) | (simp; omega)) (by first | rfl | (simp; done) | (simp; omega)) (by first | omega | (simp; omega)) (by first | omega | (simp; omega)) rfl ?_; intro A9 c9) | (refine GL.append rfl rfl Wpk (Rd.of_pick Wpk) Imp.refl (by first | rfl | (simp; done) | (simp; omega)) (by first | rfl | (simp; done) | (simp; omega)) (by first | omega | (simp; omega)) (by first | omega | (simp; omega)) rfl ?_; intro A9 c9)
      refine GL.nil ?_
      refine GE.any ?_
      refine GA.take 7 #[true, true, true, true, true, true, true, false, false, false] rfl (by exact Ev.build rfl (by first | exact bdPart ⟨_, _, _, _, _⟩ | exact bdReader _ _ _ | exact bdPart4 _ _ _ _ | exact bdForm _ _ _ | exact bdForm0 | exact bdGraph0 | exact bdGraph _ _ _ | exact bdNode1 _ | exact bdNode2 _ _ _ _ | exact bdHist0 | exact bdHist1 _ _ _ | exact bdHist2 _ _ _ _)) rfl rfl (by kernel_rfl) rfl (by kernel_rfl) (by kernel_rfl) (fun _ _ _ h => h) ?_
      refine GA.take 8 #[true, true, true, true, true, true, true, true, false, false] rfl (by exact Ev.build rfl (by first | exact bdPart ⟨_, _, _, _, _⟩ | exact bdReader _ _ _ | exact bdPart4 _ _ _ _ | exact bdForm _ _ _ | exact bdForm0 | exact bdGraph0 | exact bdGraph _ _ _ | exact bdNode1 _ | exact bdNode2 _ _ _ _ | exact bdHist0 | exact bdHist1 _ _ _ | exact bdHist2 _ _ _ _)) rfl rfl (by kernel_rfl) rfl (by kernel_rfl) (by kernel_rfl) (fun _ _ _ h => h) ?_
      refine GA.branch (rs := [9]) (JOk.dead (by kernel_rfl) (JOk.live (by exact Wlb) JOk.nil)) (by kernel_rfl) (by simp) ?_
      refine GAs.cons rfl ?_ ?_
      · --  op 9
        refine GL.store_varN rfl rfl rfl Wpk (by rfl) (by rfl) (by rfl) ?_
        refine GL.nil ?_
        refine GE.any ?_
        refine GA.done (JOk.dead (by kernel_rfl) (JOk.dead (by kernel_rfl) JOk.nil)) (by kernel_rfl) ?_
        refine GE.seq ?_
        refine GC.ret ?_
        -- returns, path 
        refine GE.ret_cell (L' := row partE A9 c9 ps :: L) (.inl rfl) rfl rfl rfl (BlkRd.of_pick Wpk) (by rfl) Wsb ?_
        exact ⟨_, _, rfl, rfl⟩
      exact GAs.nil
    exact GAs.nil
  exact GAs.nil
theorem copyGraph_spec (w0 : World) (L : List Asn) (A : Option Addr) (c : Nat) (ms : List NdM) (hG : RdG w0 L A c ms) (hS : SizeG ms) :
    Tr Try.prog 115 #[.agg #[.slice A ms.length c]] w0 L (fun v L' => ∃ B d ns, gr ns = gr ms ∧ v = .agg #[.slice B ns.length d] ∧ L' = row nodeE B d ns :: partsA ns :: L) := by
  have hN := hG.nodes
  have hSl := hS.1
  refine Tr.enter (args := [.agg #[.slice A ms.length c]]) Try.func115 Try.ntmps115 rfl rfl ?_
  refine GC.seq ?_
  refine GC.region ?_
  refine GL.box_agg rfl rfl ?_; intro g1
  refine GL.alloc rfl ?_; intro g2
  refine GL.nil ?_
  refine GE.seq ?_
  refine GC.seq ?_
  refine GC.region ?_
  refine GL.v (by exact EvP.r (Ev.build rfl (by first | exact bdPart ⟨_, _, _, _, _⟩ | exact bdReader _ _ _ | exact bdPart4 _ _ _ _ | exact bdForm _ _ _ | exact bdForm0 | exact bdGraph0 | exact bdGraph _ _ _ | exact bdNode1 _ | exact bdNode2 _ _ _ _ | exact bdHist0 | exact bdHist1 _ _ _ | exact bdHist2 _ _ _ _))) ?_
  refine GL.alloc rfl ?_; intro g3
  refine GL.store_varN rfl rfl rfl Wpk (by rfl) (by rfl) (by rfl) ?_
  refine GL.nil ?_
  refine GE.seq ?_
  refine GC.seq ?_
  refine GC.seq ?_
  refine GC.region ?_
  refine GL.v Wag ?_
  refine GL.nil ?_
  refine GE.seq ?_
  refine GC.block ?_
  -- loop 1: carried slots [4]
  refine GC.state (fun _ hs => hs.none_graph) ?_
  refine GC.loopK (α := Nat × Option Addr × Nat × List NdM) (fun x => x.1 ≤ ms.length ∧ x.2.2.2.length = x.1 ∧ gr x.2.2.2 = gr (ms.take x.1)) (fun x => [(4, .int .i64 x.1)]) [(1, _), (2, _), (3, _)] (fun x => blk g3 25 [.slice x.2.1 x.2.2.2.length x.2.2.1] :: row nodeE x.2.1 x.2.2.1 x.2.2.2 :: partsA x.2.2.2 :: blk g1 25 [.slice A ms.length c] :: blk g2 25 [.slice none 0 0] :: L) (fun x => ms.length - x.1) (0, none, 0, []) Wkp Wsb ⟨Nat.zero_le _, rfl, rfl⟩ ?_
  rintro ⟨i, B, d, ns⟩ ⟨hi, hnl, hgr⟩
  dsimp only at hi hnl hgr ⊢
  refine GC.seq ?_
  refine GC.seq ?_
  refine GC.region ?_
  refine GL.v Wmv ?_
  refine GL.v Wfa ?_
  refine GL.v Wlb ?_
  refine GL.v Wln ?_
  refine GL.v Wls ?_
  refine GL.nil ?_
  refine GE.seq ?_
  refine GC.ifs (fun h1 => ?_) (fun h1 => ?_)
  · -- T
    have hil : i < ms.length := by omega
    have hP := hG.parts i hil
    have hSi := hS.2 i hil
    refine GC.skip ?_
    refine GE.seq ?_
    refine GC.seq ?_
    refine GC.block ?_
    refine GC.region_any #[false, false, false, false, false, false, false, true, true, true, false, true] mixed ?_
    refine GA.take 0 #[false, false, true, true, true, true, true, true, true, false, false, false] rfl (by exact Ev.fieldAddr rfl) rfl rfl (by kernel_rfl) rfl (by kernel_rfl) (by kernel_rfl) (fun _ _ _ h => h) ?_
    refine GA.read 1 #[true, false, true, true, true, true, true, true, true, false, false, false] rfl (by exact Wlb) rfl rfl (by kernel_rfl) rfl (by kernel_rfl) (by kernel_rfl) (fun _ _ _ h => h) ?_
    refine GA.take 2 #[true, true, false, false, true, false, false, false, false, false, false, false] rfl (by exact Ev.fieldAddr rfl) rfl rfl (by kernel_rfl) rfl (by kernel_rfl) (by kernel_rfl) (fun _ _ _ h => h) ?_
    refine GA.read 3 #[true, true, true, false, true, false, false, false, false, false, false, false] rfl (by exact Wlb) rfl rfl (by kernel_rfl) rfl (by kernel_rfl) (by kernel_rfl) (fun _ _ _ h => h) ?_
    refine GA.take 4 #[true, true, true, true, false, false, false, false, false, false, false, false] rfl (by exact Ev.move rfl) rfl rfl (by kernel_rfl) rfl (by kernel_rfl) (by kernel_rfl) (fun _ _ _ h => h) ?_
    refine GA.read 5 #[true, true, true, true, true, false, false, false, false, false, false, false] rfl (by exact Wix) rfl rfl (by kernel_rfl) rfl (by kernel_rfl) (by kernel_rfl) (fun _ _ _ h => h) ?_
    refine GA.read 6 #[true, true, true, true, true, true, false, false, false, false, false, false] rfl (by exact Wle) rfl rfl (by kernel_rfl) rfl (by kernel_rfl) (by kernel_rfl) (fun _ _ _ h => h) ?_
    refine GA.branch (rs := [7]) (JOk.live (by exact Wle) (JOk.live (by exact Wix) (JOk.live (by exact Wlb) (JOk.live (by exact Wlb) JOk.nil)))) (by kernel_rfl) (by simp) ?_
    refine GAs.cons rfl ?_ ?_
    · -- T op 7
      refine GL.call rfl rfl (copyNode_spec w0 _ ms[i].kind ms[i].a ms[i].c ms[i].parts (hP.imp Wim) hSi) ?_
      rintro _ _ ⟨B20, d20, rfl, rfl⟩
      refine GL.nil ?_
      refine GE.any ?_
      refine GA.branch (rs := [8]) (JOk.dead (by kernel_rfl) (JOk.dead (by kernel_rfl) (JOk.dead (by kernel_rfl) (JOk.live (by exact Wlb) JOk.nil)))) (by kernel_rfl) (by simp) ?_
      refine GAs.cons rfl ?_ ?_
      · -- T op 8
        refine GL.buildSlice rfl (bsNode1 ⟨ms[i].kind, B20, d20, ms[i].parts⟩) rfl (by decide) rfl ?_; intro g21
        refine GL.nil ?_
        refine GE.any ?_
        refine GA.branch (rs := [9]) (JOk.dead (by kernel_rfl) (JOk.dead (by kernel_rfl) (JOk.dead (by kernel_rfl) (JOk.live (by exact Wlb) JOk.nil)))) (by kernel_rfl) (by simp) ?_
        refine GAs.cons rfl ?_ ?_
        · -- T op 9
          first | (refine GL.append rfl rfl Wpk (by assumption) Wim (by first | rfl | (simp; done) | (simp; omega)) (by first | rfl | (simp; done) | (simp; omega)) (by first | omega | (simp; omega)) (by first | omega | (simp; omega)) rfl ?_; intro A22 c22) | (refine GL.append rfl rfl Wpk (Rd.of_pick Wpk) Imp.refl (by first | rfl | (simp; done) | (simp; omega)) (by first | rfl | (simp; done) | (simp; omega)) (by first | omega | (simp; omega)) (by first | omega | (simp; omega)) rfl ?_; intro A22 c22)
          refine GL.nil ?_
          refine GE.any ?_
          refine GA.take 10 #[true, true, true, true, true, true, true, true, true, true, false, false] rfl (by exact Ev.fieldAddr rfl) rfl rfl (by kernel_rfl) rfl (by kernel_rfl) (by kernel_rfl) (fun _ _ _ h => h) ?_
          refine GA.branch (rs := [11]) (JOk.dead (by kernel_rfl) (JOk.dead (by kernel_rfl) (JOk.dead (by kernel_rfl) (JOk.dead (by kernel_rfl) JOk.nil)))) (by kernel_rfl) (by simp) ?_
          refine GAs.cons rfl ?_ ?_
          · -- T op 11
            refine GL.store_blk rfl rfl rfl Wpk (Nat.lt_of_lt_of_le (Nat.le_of_ble_eq_true (by rfl)) (Nat.le_refl _)) (by rfl) (by rfl) ?_
            refine GL.nil ?_
            refine GE.any ?_
            refine GA.done (JOk.dead (by kernel_rfl) (JOk.dead (by kernel_rfl) (JOk.dead (by kernel_rfl) (JOk.dead (by kernel_rfl) JOk.nil)))) (by kernel_rfl) ?_
            refine GE.block ?_
            refine GE.seq ?_
            refine GC.region ?_
            refine GL.v Wmv ?_
            refine GL.v Wad ?_
            refine GL.v Wag ?_
            refine GL.nil ?_
            -- round of loop 1, path T
            refine GE.parts_snoc ⟨ms[i].kind, B20, d20, ms[i].parts⟩ Wpk Wpk ?_
            refine GE.round (i + 1, _, _, ns ++ [⟨ms[i].kind, B20, d20, ms[i].parts⟩]) ⟨by dsimp only; omega, by simp [hnl], ?_⟩ (by dsimp only; omega) Wkp Wsb
            dsimp only
            rw [gr_take_succ hil, ← hgr]
            simp [gr, NdM.nd]
          exact GAs.nil
        exact GAs.nil
      exact GAs.nil
    exact GAs.nil
  · -- F
    have hie : i = ms.length := by omega
    subst hie
    rw [List.take_length] at hgr
    refine GC.exit ?_
    refine GE.seq_exit ?_
    refine GE.loop_exit ?_
    refine GE.block_exit ?_
    refine GE.seq ?_
    refine GC.seq ?_
    refine GC.region ?_
    refine GL.v Wlba ?_
    refine GL.store_varN rfl rfl rfl Wpk (by rfl) (by rfl) (by rfl) ?_
    refine GL.nil ?_
    refine GE.seq ?_
    refine GC.ret ?_
    -- returns, path F
    refine GE.ret_cell (L' := row nodeE B d ns :: partsA ns :: L) (.inl rfl) rfl rfl rfl (BlkRd.of_pick Wpk) (by rfl) Wsb ?_
    exact ⟨B, d, ns, hgr, rfl, rfl⟩
end SG
