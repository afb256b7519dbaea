/- Contracts: the laws' looks at graphs and nodes; drawn graphs with a node to add. -/
import Derived.Test.YtpkooglnapjcnaaD6
import Derived.Test.YtpkooglnapjcnaaD7
import Derived.Test.YtpkooglnapjcnaaD33
namespace SG
open Go Go.RowKit Go.Proofs
set_option linter.unusedVariables false
set_option linter.unusedSimpArgs false
set_option maxRecDepth 100000
theorem equalGraph_spec (w0 : World) (L : List Asn) (A : Option Addr) (c : Nat) (ms : List NdM) (hG : RdG w0 L A c ms) (B : Option Addr) (d : Nat) (ns : List NdM) (hH : RdG w0 L B d ns) (hS : SizeG ms) :
    Tr Try.prog 35 #[.agg #[.slice A ms.length c], .agg #[.slice B ns.length d]] w0 L (fun v L' => v = .bool (decide (gr ms = gr ns)) ∧ L' = L) := by
  have hN := hG.nodes
  have hM := hH.nodes
  have hSl := hS.1
  refine Tr.enter (args := [.agg #[.slice A ms.length c], .agg #[.slice B ns.length d]]) Try.func35 Try.ntmps35 rfl rfl ?_
  refine GC.seq ?_
  refine GC.region ?_
  refine GL.box_agg rfl rfl ?_; intro g2
  refine GL.box_agg rfl rfl ?_; intro g3
  refine GL.v Wag ?_
  refine GL.nil ?_
  refine GE.seq ?_
  refine GC.seq ?_
  refine GC.seq ?_
  refine GC.region ?_
  refine GL.v Wfa ?_
  refine GL.v Wlb ?_
  refine GL.v Wln ?_
  refine GL.v Wfa ?_
  refine GL.v Wlb ?_
  refine GL.v Wln ?_
  refine GL.v Wnq ?_
  refine GL.nil ?_
  refine GE.seq ?_
  refine GC.ifs (fun h1 => ?_) (fun h1 => ?_)
  · -- T
    refine GC.seq ?_
    refine GC.region ?_
    refine GL.v Wag ?_
    refine GL.nil ?_
    refine GE.seq ?_
    refine GC.ret ?_
    refine GE.seq_ret ?_
    -- returns, path T
    refine GE.ret_tmp (L' := L) (.inl rfl) rfl rfl Wsb ?_
    exact ⟨by rw [decide_eq_false (fun e => h1 (by have := congrArg List.length e; simp at this; omega))], rfl⟩
  · -- F
    refine GC.skip ?_
    refine GE.seq ?_
    refine GC.seq ?_
    refine GC.seq ?_
    refine GC.region ?_
    refine GL.v Wag ?_
    refine GL.nil ?_
    refine GE.seq ?_
    refine GC.block ?_
    -- loop 1: carried slots [5]
    have hll : ms.length = ns.length := by omega
    refine GC.loopK (α := Nat) (fun i => i ≤ ms.length ∧ ∀ j (h : j < i) (h1 : j < ms.length) (h2 : j < ns.length), ms[j].kind = ns[j].kind ∧ ms[j].parts = ns[j].parts) (fun i => [(5, .int .i64 i)]) [(2, _), (3, _)] (fun i => blk g2 25 [.slice A ms.length c] :: blk g3 25 [.slice B ns.length d] :: L) (fun i => ms.length - i) 0 Wkp Wsb ⟨Nat.zero_le _, fun _ h => by omega⟩ ?_
    rintro i ⟨hi, hok⟩
    refine GC.seq ?_
    refine GC.seq ?_
    refine GC.region ?_
    refine GL.v Wmv ?_
    refine GL.v Wfa ?_
    refine GL.v Wlb ?_
    refine GL.v Wln ?_
    refine GL.v Wls ?_
    refine GL.nil ?_
    refine GE.seq ?_
    refine GC.ifs (fun h2 => ?_) (fun h2 => ?_)
    · -- FT
      have hil : i < ms.length := by omega
      have him : i < ns.length := by omega
      have hP := hG.parts i hil
      have hQ := hH.parts i him
      have hSi := hS.2 i hil
      have hge : gr ms = gr ns → ms[i].kind = ns[i].kind ∧ ms[i].parts = ns[i].parts := fun e => by
        have h1 : (gr ms)[i]'(by simpa using hil) = ms[i].nd := gr_get _
        have h2 : (gr ns)[i]'(by simpa using him) = ns[i].nd := gr_get _
        have h3 : ms[i].nd = ns[i].nd := by rw [← h1, ← h2]; simp only [e]
        have h4 := congrArg Nd.kind h3
        have h5 := congrArg Nd.parts h3
        exact ⟨h4, h5⟩
      refine GC.skip ?_
      refine GE.seq ?_
      refine GC.seq ?_
      refine GC.block ?_
      refine GC.seq ?_
      refine GC.region_quiet mixed (by kernel_rfl) ?_
      refine GL.v Wfa ?_
      refine GL.v Wlb ?_
      refine GL.v Wmv ?_
      refine GL.v Wix ?_
      refine GL.v Wfa ?_
      refine GL.v Wlef ?_
      refine GL.v Wfa ?_
      refine GL.v Wlb ?_
      refine GL.v Wmv ?_
      refine GL.v Wix ?_
      refine GL.v Wfa ?_
      refine GL.v Wlef ?_
      refine GL.v Wnq ?_
      refine GL.v Wmv ?_
      refine GL.gs (fun h3 => ?_) (fun h3 => ?_)
      · -- FTt
        refine GL.unwant rfl rfl rfl rfl ?_
        refine GL.unwant rfl rfl rfl rfl ?_
        refine GL.unwant rfl rfl rfl rfl ?_
        refine GL.unwant rfl rfl rfl rfl ?_
        refine GL.unwant rfl rfl rfl rfl ?_
        refine GL.unwant rfl rfl rfl rfl ?_
        refine GL.unwant rfl rfl rfl rfl ?_
        refine GL.unwant rfl rfl rfl rfl ?_
        refine GL.unwant rfl rfl rfl rfl ?_
        refine GL.unwant rfl rfl rfl rfl ?_
        refine GL.unwant rfl rfl rfl rfl ?_
        refine GL.unwant rfl rfl rfl rfl ?_
        refine GL.unwant rfl rfl rfl rfl ?_
        refine GL.unwant rfl rfl rfl rfl ?_
        refine GL.v Wpt ?_
        refine GL.nil ?_
        refine GE.seq ?_
        refine GC.cond_true rfl ?_
        refine GC.seq ?_
        refine GC.region ?_
        refine GL.v Wag ?_
        refine GL.nil ?_
        refine GE.seq ?_
        refine GC.ret ?_
        refine GE.block_ret ?_
        refine GE.seq_ret ?_
        refine GE.loop_ret ?_
        refine GE.block_ret ?_
        refine GE.seq_ret ?_
        -- returns, path FTt
        refine GE.ret_tmp (L' := L) (.inl rfl) rfl rfl Wsb ?_
        exact ⟨by rw [decide_eq_false (fun e => h3 (hge e).1)], rfl⟩
      · -- FTf
        refine GL.want rfl rfl ?_
        refine GL.v Wfa ?_
        refine GL.want rfl rfl ?_
        refine GL.v Wlb ?_
        refine GL.want rfl rfl ?_
        refine GL.v Wmv ?_
        refine GL.want rfl rfl ?_
        refine GL.v Wix ?_
        refine GL.want rfl rfl ?_
        refine GL.v Wfa ?_
        refine GL.want rfl rfl ?_
        refine GL.v Wlef1 ?_
        refine GL.want rfl rfl ?_
        refine GL.v Wfa ?_
        refine GL.want rfl rfl ?_
        refine GL.v Wlb ?_
        refine GL.want rfl rfl ?_
        refine GL.v Wmv ?_
        refine GL.want rfl rfl ?_
        refine GL.v Wix ?_
        refine GL.want rfl rfl ?_
        refine GL.v Wfa ?_
        refine GL.want rfl rfl ?_
        refine GL.v Wlef1 ?_
        refine GL.want rfl rfl ?_
        refine GL.callF rfl rfl (equalFormula_spec _ _ _ _ _ Wrd _ _ _ Wrd Wom) ?_
        refine GL.want rfl rfl ?_
        refine GL.v Wnt ?_
        refine GL.v Wpf ?_
        refine GL.nil ?_
        refine GE.seq ?_
        refine GC.ifs (fun h4 => ?_) (fun h4 => ?_)
        · -- FTfT
          refine GC.seq ?_
          refine GC.region ?_
          refine GL.v Wag ?_
          refine GL.nil ?_
          refine GE.seq ?_
          refine GC.ret ?_
          refine GE.block_ret ?_
          refine GE.seq_ret ?_
          refine GE.loop_ret ?_
          refine GE.block_ret ?_
          refine GE.seq_ret ?_
          -- returns, path FTfT
          refine GE.ret_tmp (L' := L) (.inl rfl) rfl rfl Wsb ?_
          exact ⟨by rw [decide_eq_false (fun e => h4 (hge e).2)], rfl⟩
        · -- FTfF
          refine GC.skip ?_
          refine GE.block ?_
          refine GE.seq ?_
          refine GC.region ?_
          refine GL.v Wmv ?_
          refine GL.v Wad ?_
          refine GL.v Wag ?_
          refine GL.nil ?_
          -- round of loop 1, path FTfF
          refine GE.round (i + 1) ⟨by omega, fun j h h1 h2 => ?_⟩ (by omega) Wkp Wsb
          by_cases e : j = i
          · subst e; exact ⟨h3, h4⟩
          · exact hok j (by omega) h1 h2
    · -- FF
      refine GC.exit ?_
      refine GE.seq_exit ?_
      refine GE.loop_exit ?_
      refine GE.block_exit ?_
      refine GE.seq ?_
      refine GC.seq ?_
      refine GC.region ?_
      refine GL.v Wag ?_
      refine GL.nil ?_
      refine GE.seq ?_
      refine GC.ret ?_
      -- returns, path FF
      refine GE.ret_tmp (L' := L) (.inl rfl) rfl rfl Wsb ?_
      exact ⟨by rw [decide_eq_true (List.ext_getElem (by simp; omega) fun j h1 h2 => by rw [gr_get, gr_get]; have := hok j (by simp at h1; omega) (by simpa using h1) (by simpa using h2); unfold NdM.nd; rw [this.1, this.2])], rfl⟩
theorem markNode_spec (w0 : World) (L : List Asn) (A : Option Addr) (c : Nat) (xs : List Part) (j k : Int) (h0 : 0 ≤ k) (h1 : k ≤ 9000000000000000) (hl : xs.length ≤ 1100000) :
    Tr Try.prog 40 #[.agg #[.int .i64 j, .slice A xs.length c], .int .i64 k] w0 (row partE A c xs :: L) (fun v L' => v = .int .i64 (k + 5 * xs.length) ∧ ∃ ys, ys.length = xs.length ∧ L' = row partE A c ys :: L) := by
  refine Tr.enter (args := [.agg #[.int .i64 j, .slice A xs.length c], .int .i64 k]) Try.func40 Try.ntmps40 rfl rfl ?_
  refine GC.seq ?_
  refine GC.region ?_
  refine GL.box_agg rfl rfl ?_; intro g2
  refine GL.v Wag ?_
  refine GL.nil ?_
  refine GE.seq ?_
  refine GC.seq ?_
  refine GC.region ?_
  refine GL.v Wfa ?_
  refine GL.v Wlb1 ?_
  refine GL.v Wmv ?_
  refine GL.callP rfl rfl Wpk (markFormula_spec _ _ _ _ _ _ Wom Wom Wom) ?_
  rintro _ _ ⟨rfl, ys, hys, rfl⟩
  refine GL.v Wag ?_
  refine GL.nil ?_
  refine GE.seq ?_
  refine GC.seq ?_
  refine GC.region ?_
  refine GL.v Wmv ?_
  refine GL.v Wag ?_
  refine GL.nil ?_
  refine GE.seq ?_
  refine GC.ret ?_
  -- returns, path 
  refine GE.ret_tmp (L' := row partE A c ys :: L) (.inl rfl) rfl rfl Wsb ?_
  exact ⟨rfl, ys, hys, rfl⟩
theorem heldGraph_spec (w0 : World) (L : List Asn) (A : Option Addr) (c n : Nat) (ms : List NdM) (k : Int) (hG : RdG w0 L A c (markG k ms)) (hS : SizeG ms) (hn : n = ms.length) (h0 : 0 ≤ k) (h1 : k ≤ 1000) :
    Tr Try.prog 41 #[.agg #[.slice A n c], .int .i64 k] w0 L (fun v L' => v = .int .i64 (nAt k ms ms.length) ∧ L' = L) := by
  have hkb := nAt_bound (k := k) hS ms.length (Nat.le_refl _)
  refine Tr.enter (args := [.agg #[.slice A n c], .int .i64 k]) Try.func41 Try.ntmps41 rfl rfl ?_
  refine GC.seq ?_
  refine GC.region ?_
  refine GL.box_agg rfl rfl ?_; intro g2
  refine GL.v Wag ?_
  refine GL.nil ?_
  refine GE.seq ?_
  refine GC.seq ?_
  refine GC.region ?_
  refine GL.v Wfa ?_
  refine GL.v Wlb ?_
  refine GL.v Wmv ?_
  refine GL.callF rfl rfl (heldNodeS_spec _ _ _ _ _ _ _ (hG.imp Wim) hS hn h0 h1) ?_
  refine GL.v Wag ?_
  refine GL.nil ?_
  refine GE.seq ?_
  refine GC.seq ?_
  refine GC.seq ?_
  refine GC.region ?_
  refine GL.v Wmv ?_
  refine GL.v Wls ?_
  refine GL.nil ?_
  refine GE.seq ?_
  refine GC.ifs (fun h1 => ?_) (fun h1 => ?_)
  · -- T
    omega
  · -- F
    refine GC.skip ?_
    refine GE.seq ?_
    refine GC.seq ?_
    refine GC.region ?_
    refine GL.v Wmv ?_
    refine GL.v Wag ?_
    refine GL.nil ?_
    refine GE.seq ?_
    refine GC.ret ?_
    -- returns, path F
    refine GE.ret_tmp (L' := L) (.inl rfl) rfl rfl Wsb ?_
    exact ⟨rfl, rfl⟩
theorem sizeG_add {ms ns : List NdM} {k : Int} {ps : List Part} (h : gr ns = addL (gr ms) ⟨k, ps⟩) (hS : SizeG ms) (hl : ms.length ≤ 1048576) (hp : ps.length ≤ 1100000) : SizeG ns := by
  cases hb : addB (gr ms) ⟨k, ps⟩ with
  | true =>
    rw [addL_yes hb] at h
    exact (SizeG.snoc (m := ⟨k, none, 0, ps⟩) hS hl hp).gr (by rw [h, gr_append]; rfl)
  | false =>
    rw [addL_no hb] at h
    have : ns = [] := by have := congrArg List.length h; simp at this; exact this
    subst this
    exact ⟨by simp, fun i hi => by simp at hi⟩
theorem DrawAddNode_spec (w0 : World) (L : List Asn) (A : Option Addr) (c : Nat) (bs : List Int) (hR : Rd w0 [] byteE A c bs) (hb : ∀ x ∈ bs, 0 ≤ x ∧ x ≤ 255) (hl : bs.length ≤ 1048576) (hc : bs.length ≤ c) :
    Tr Try.prog 32 #[.slice A bs.length c] w0 L (fun v L' => ∃ (D : Option Addr) (e : Nat) (ms : List NdM) (k : Int) (B : Option Addr) (d : Nat) (ps : List Part), v = .tuple #[.agg #[.slice D ms.length e], .agg #[.int .i64 k, .slice B ps.length d]] ∧ 2 ≤ ms.length ∧ ms.length ≤ 10 ∧ (∀ m ∈ ms, m.parts.length ≤ 12) ∧ ps.length ≤ 12 ∧ L' = row nodeE D e ms :: partsA ms :: row partE B d ps :: L) := by
  have hC := Code0.take hR hb
  refine Tr.enter (args := [.slice A bs.length c]) Try.func32 Try.ntmps32 rfl rfl ?_
  refine GC.seq ?_
  refine GC.region ?_
  refine GL.alloc rfl ?_; intro g2
  refine GL.alloc rfl ?_; intro g3
  refine GL.nil ?_
  refine GE.seq ?_
  refine GC.seq ?_
  refine GC.region ?_
  refine GL.v Wmv ?_
  refine GL.call rfl rfl (newReader_spec _ _ _ _ _ (by assumption) Wom Wom) ?_
  rintro _ _ ⟨g8, rfl, rfl⟩
  refine GL.v Wag ?_
  refine GL.nil ?_
  refine GE.seq ?_
  refine GC.seq ?_
  refine GC.region ?_
  refine GL.v Wmv ?_
  refine GL.callP rfl rfl Wpk (someGraph_spec _ _ _ _ _ _ (by assumption) _ Wom Wom) ?_
  rintro _ _ ⟨D10, e10, ms10, p10, rfl, ms10a, ms10b, ms10c, p10a, p10b, rfl⟩
  refine GL.alloc rfl ?_; intro g5
  refine GL.store_varN rfl rfl rfl Wpk (by rfl) (by rfl) (by rfl) ?_
  refine GL.nil ?_
  refine GE.seq ?_
  refine GC.seq ?_
  refine GC.region ?_
  refine GL.v Wmv ?_
  refine GL.buildSlice rfl (by first | exact bsInt0 | exact bsInt1 _ | exact bsInt2 _ _ | exact bsInt3 _ _ _ | exact bsInt4 _ _ _ _ | exact bsInt5 _ _ _ _ _ | exact bsInt6 _ _ _ _ _ _ | exact bsInt7 _ _ _ _ _ _ _ | exact bsInt8 _ _ _ _ _ _ _ _ | exact bsInt9 _ _ _ _ _ _ _ _ _ | exact bsInt10 _ _ _ _ _ _ _ _ _ _ | exact bsPart0 | exact bsPart1 ⟨_, _, _, _, _⟩ | exact bsNode1 ⟨_, _, _, _⟩ | exact bsPtr3 _ _ _ | exact bsSl0 | exact bsSl1 ⟨_, _, _⟩) rfl (by decide) rfl ?_; intro g12
  refine GL.front (A := rdr _ _ _ _ _) Wpk ?_
  refine GL.call rfl rfl (one_spec _ _ _ _ _ _ (by assumption) _ (by omega) (by omega) _ _ _ (by first | exact Rd.of_pick Wpk | exact Rd.imp (by assumption) Wim) _ (by rfl) (by first | omega | (simp; done) | (simp; omega)) (by first | omega | (simp; done) | (simp; omega))) ?_
  rintro _ _ ⟨x13, rfl, x13m, rfl⟩
  refine GL.v (by exact EvP.r (Ev.build rfl (by first | exact bdPart ⟨_, _, _, _, _⟩ | exact bdReader _ _ _ | exact bdPart4 _ _ _ _ | exact bdForm _ _ _ | exact bdForm0 | exact bdGraph0 | exact bdGraph _ _ _ | exact bdNode1 _ | exact bdNode2 _ _ _ _ | exact bdHist0 | exact bdHist1 _ _ _ | exact bdHist2 _ _ _ _))) ?_
  refine GL.alloc rfl ?_; intro g6
  refine GL.store_varN rfl rfl rfl Wpk (by rfl) (by rfl) (by rfl) ?_
  refine GL.nil ?_
  refine GE.seq ?_
  refine GC.seq ?_
  refine GC.seq ?_
  refine GC.region ?_
  refine GL.v Wfa ?_
  refine GL.v Wlb ?_
  refine GL.v Wnq ?_
  refine GL.nil ?_
  refine GE.seq ?_
  refine GC.ifs (fun h1 => ?_) (fun h1 => ?_)
  · -- T
    refine GC.region ?_
    refine GL.v Wmv ?_
    refine GL.v Wmv ?_
    refine GL.front (A := rdr _ _ _ _ _) Wpk ?_
    refine GL.call rfl rfl (pick_spec _ _ _ _ _ _ (by assumption) _ _ (by omega) (by omega) (by omega) (by omega)) ?_
    rintro _ _ ⟨x20, rfl, x20a, x20b, x20c, rfl⟩
    refine GL.v (by exact EvP.r (Ev.rem rfl rfl (by omega) (by omega))) ?_
    refine GL.buildSlice rfl (by first | exact bsInt0 | exact bsInt1 _ | exact bsInt2 _ _ | exact bsInt3 _ _ _ | exact bsInt4 _ _ _ _ | exact bsInt5 _ _ _ _ _ | exact bsInt6 _ _ _ _ _ _ | exact bsInt7 _ _ _ _ _ _ _ | exact bsInt8 _ _ _ _ _ _ _ _ | exact bsInt9 _ _ _ _ _ _ _ _ _ | exact bsInt10 _ _ _ _ _ _ _ _ _ _ | exact bsPart0 | exact bsPart1 ⟨_, _, _, _, _⟩ | exact bsNode1 ⟨_, _, _, _⟩ | exact bsPtr3 _ _ _ | exact bsSl0 | exact bsSl1 ⟨_, _, _⟩) rfl (by decide) rfl ?_; intro g22
    refine GL.callP rfl rfl Wpk (goodFormula_spec _ _ _ _ _ _ (by assumption) _ Wom Wom _ _ _ Wrd _ Wom Wom) ?_
    rintro _ _ ⟨D23, e23, fp23, p23, rfl, fp23a, fp23b, p23a, p23b, rfl⟩
    refine GL.v Wfa ?_
    refine GL.store_blk rfl rfl rfl Wpk (Nat.lt_of_lt_of_le (Nat.le_of_ble_eq_true (by rfl)) (Nat.le_refl _)) (by rfl) (by rfl) ?_
    refine GL.nil ?_
    refine GE.seq ?_
    refine GC.seq ?_
    refine GC.region_any #[false, false, true, true] mixed ?_
    refine GA.read 0 #[false, true, false, false] rfl (by exact Wlba) rfl rfl (by kernel_rfl) rfl (by kernel_rfl) (by kernel_rfl) (fun _ _ _ h => h) ?_
    refine GA.read 1 #[true, false, true, false] rfl (by exact Wlba) rfl rfl (by kernel_rfl) rfl (by kernel_rfl) (by kernel_rfl) (fun _ _ _ h => h) ?_
    refine GA.branch (rs := [2]) (JOk.live (by exact Wlba) (JOk.live (by exact Wlba) JOk.nil)) (by kernel_rfl) (by simp) ?_
    refine GAs.cons rfl ?_ ?_
    · -- T op 2
      refine GL.store_varN rfl rfl rfl Wpk (by rfl) (by rfl) (by rfl) ?_
      refine GL.nil ?_
      refine GE.any ?_
      refine GA.branch (rs := [3]) (JOk.live (by exact Wlba) (JOk.dead (by kernel_rfl) JOk.nil)) (by kernel_rfl) (by simp) ?_
      refine GAs.cons rfl ?_ ?_
      · -- T op 3
        refine GL.store_varN rfl rfl rfl Wpk (by rfl) (by rfl) (by rfl) ?_
        refine GL.nil ?_
        refine GE.any ?_
        refine GA.done (JOk.dead (by kernel_rfl) (JOk.dead (by kernel_rfl) JOk.nil)) (by kernel_rfl) ?_
        refine GE.seq ?_
        refine GC.ret ?_
        -- returns, path T
        refine GE.res2 (L' := row nodeE D10 e10 ms10 :: partsA ms10 :: row partE D23 e23 fp23 :: L) (.inl rfl) rfl (Res1.cell rfl rfl (BlkRd.of_pick Wpk) (by rfl)) (Res1.cell rfl rfl (BlkRd.of_pick Wpk) (by rfl)) Wsb ?_
        exact ⟨_, _, _, x13, D23, e23, fp23, rfl, ms10a, ms10b, ms10c, fp23b, rfl⟩
      exact GAs.nil
    exact GAs.nil
  · -- F
    refine GC.skip ?_
    refine GE.seq ?_
    refine GC.seq ?_
    refine GC.region_any #[false, false, true, true] mixed ?_
    refine GA.read 0 #[false, true, false, false] rfl (by exact Wlba) rfl rfl (by kernel_rfl) rfl (by kernel_rfl) (by kernel_rfl) (fun _ _ _ h => h) ?_
    refine GA.read 1 #[true, false, true, false] rfl (by exact Wlba) rfl rfl (by kernel_rfl) rfl (by kernel_rfl) (by kernel_rfl) (fun _ _ _ h => h) ?_
    refine GA.branch (rs := [2]) (JOk.live (by exact Wlba) (JOk.live (by exact Wlba) JOk.nil)) (by kernel_rfl) (by simp) ?_
    refine GAs.cons rfl ?_ ?_
    · -- F op 2
      refine GL.store_varN rfl rfl rfl Wpk (by rfl) (by rfl) (by rfl) ?_
      refine GL.nil ?_
      refine GE.any ?_
      refine GA.branch (rs := [3]) (JOk.live (by exact Wlba) (JOk.dead (by kernel_rfl) JOk.nil)) (by kernel_rfl) (by simp) ?_
      refine GAs.cons rfl ?_ ?_
      · -- F op 3
        refine GL.store_varN rfl rfl rfl Wpk (by rfl) (by rfl) (by rfl) ?_
        refine GL.nil ?_
        refine GE.any ?_
        refine GA.done (JOk.dead (by kernel_rfl) (JOk.dead (by kernel_rfl) JOk.nil)) (by kernel_rfl) ?_
        refine GE.seq ?_
        refine GC.ret ?_
        -- returns, path F
        refine GE.state (fun _ hs => hs.empty partE none) ?_
        refine GE.res2 (L' := row nodeE D10 e10 ms10 :: partsA ms10 :: row partE none 0 [] :: L) (.inl rfl) rfl (Res1.cell rfl rfl (BlkRd.of_pick Wpk) (by rfl)) (Res1.cell rfl rfl (BlkRd.of_pick Wpk) (by rfl)) Wsb ?_
        exact ⟨_, _, _, x13, none, 0, [], rfl, ms10a, ms10b, ms10c, by simp, rfl⟩
      exact GAs.nil
    exact GAs.nil
theorem arg_node {W : World} {H : Type} {enc : TypeId × Value → H} {base : Nat} {v : Value} {d : DataW H} {p : List MemPlace} (hval : Value.okWide Try.prog W .any base 64 v) (h : DataW.Trod enc Try.prog W 0 (fun _ => true) true 64 v d p) :
    ∃ k A c ps, v = .agg #[.int .i64 k, .slice A ps.length c] ∧ Rd W [] lpartE A c ps := by
  obtain ⟨fs, hu⟩ := is_struct (P := Try.prog) (t := 64) (i := 0) (r := (3, 0)) (by kernel_rfl)
  obtain ⟨cs, n, x, rfl, h'⟩ := arg_agg hu hval h
  obtain ⟨m, e, hg⟩ := opens_lnode W _ _ _ _ _ h'
  obtain ⟨cl⟩ := cs
  exact ⟨m.kind, m.a, m.c, m.parts, by rw [← show lnodeE.enc m = [.int .i64 m.kind, .slice m.a m.parts.length m.c] from rfl, e], hg⟩
end SG
