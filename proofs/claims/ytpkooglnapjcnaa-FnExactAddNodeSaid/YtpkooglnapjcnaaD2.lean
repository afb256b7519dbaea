/- Contracts: what a formula may read; valid graphs. -/
import Derived.Test.YtpkooglnapjcnaaD1
namespace SG
open Go Go.RowKit Go.Proofs
set_option linter.unusedVariables false
set_option linter.unusedSimpArgs false
set_option maxRecDepth 100000

theorem mayRead_spec (w0 : World) (L : List Asn) (A : Option Addr) (c : Nat) (ps : List Part) (hR : Rd w0 L partE A c ps) (hl : ps.length ≤ 12) (hf : ReadsFit ps) :
    Tr Try.prog 89 #[.agg #[.slice A ps.length c]] w0 L (fun v L' => ∃ B, v = .slice B (mayL ps).length (mayL ps).length ∧ L' = row intE B (mayL ps).length (mayL ps) :: L) := by
  refine Tr.enter (args := [.agg #[.slice A ps.length c]]) Try.func89 Try.ntmps89 rfl rfl ?_
  refine GC.seq ?_
  refine GC.region ?_
  refine GL.box_agg rfl rfl ?_; intro g1
  refine GL.v Wag ?_
  refine GL.nil ?_
  refine GE.seq ?_
  refine GC.seq ?_
  refine GC.region ?_
  refine GL.v Wag ?_
  refine GL.nil ?_
  refine GE.seq ?_
  refine GC.seq ?_
  refine GC.seq ?_
  refine GC.region ?_
  refine GL.v Wfa ?_
  refine GL.v Wlb ?_
  refine GL.v Wln ?_
  refine GL.v Wmv ?_
  refine GL.nil ?_
  refine GE.seq ?_
  refine GC.block ?_
  -- loop 1: carried slots [3, 9]
  refine GC.row0 intE none ?_
  refine GC.loopK (α := Nat × Option Addr × Nat) (fun x => x.1 ≤ ps.length) (fun x => [(3, .slice x.2.1 (readsOf (ps.take x.1)).length x.2.2), (9, .int .i64 x.1)]) [(7, _), (8, _)] (fun x => row intE x.2.1 x.2.2 (readsOf (ps.take x.1)) :: L) (fun x => ps.length - x.1) (0, none, 0) Wkp Wsb (Nat.zero_le _) ?_
  rintro ⟨i, B, d⟩ hi
  dsimp only at hi ⊢
  have hrl := readsOf_length (ps.take i)
  rw [List.length_take] at hrl
  refine GC.seq ?_
  refine GC.region ?_
  refine GL.v Wls ?_
  refine GL.nil ?_
  refine GE.seq ?_
  refine GC.seq ?_
  refine GC.ifs (fun h1 => ?_) (fun h1 => ?_)
  · -- T
    have hil : i < ps.length := by omega
    refine GC.skip ?_
    refine GE.seq ?_
    refine GC.seq ?_
    refine GC.block ?_
    refine GC.seq ?_
    refine GC.region ?_
    refine GL.v Wix ?_
    refine GL.v Wle ?_
    refine GL.alloc rfl ?_; intro g5
    refine GL.store_varN rfl rfl rfl Wpk (by rfl) (by rfl) (by rfl) ?_
    refine GL.nil ?_
    refine GE.seq ?_
    refine GC.seq ?_
    refine GC.region ?_
    refine GL.v Wfa ?_
    refine GL.v Wlb ?_
    refine GL.v Weq ?_
    refine GL.nil ?_
    refine GE.seq ?_
    refine GC.ifs (fun h2 => ?_) (fun h2 => ?_)
    · -- TT
      refine GC.region ?_
      refine GL.v Wmv ?_
      refine GL.v Wfa ?_
      refine GL.v Wlb ?_
      refine GL.buildSlice rfl (by first | exact bsInt0 | exact bsInt1 _ | exact bsInt2 _ _ | exact bsInt3 _ _ _ | exact bsInt4 _ _ _ _ | exact bsInt5 _ _ _ _ _ | exact bsInt6 _ _ _ _ _ _ | exact bsInt7 _ _ _ _ _ _ _ | exact bsInt8 _ _ _ _ _ _ _ _ | exact bsInt9 _ _ _ _ _ _ _ _ _ | exact bsInt10 _ _ _ _ _ _ _ _ _ _ | exact bsPart0 | exact bsPart1 ⟨_, _, _, _, _⟩ | exact bsNode1 ⟨_, _, _, _⟩ | exact bsPtr3 _ _ _ | exact bsSl0 | exact bsSl1 ⟨_, _, _⟩) rfl (by decide) rfl ?_; intro g19
      first | (refine GL.append rfl rfl Wpk (by assumption) Wim (by first | rfl | (simp; done) | (simp; omega)) (by first | rfl | (simp; done) | (simp; omega)) (by first | omega | (simp; omega)) (by first | omega | (simp; omega)) rfl ?_; intro A20 c20) | (refine GL.append rfl rfl Wpk (Rd.of_pick Wpk) Imp.refl (by first | rfl | (simp; done) | (simp; omega)) (by first | rfl | (simp; done) | (simp; omega)) (by first | omega | (simp; omega)) (by first | omega | (simp; omega)) rfl ?_; intro A20 c20)
      refine GL.v Wag ?_
      refine GL.nil ?_
      refine GE.block ?_
      refine GE.seq ?_
      refine GC.region ?_
      refine GL.v Wad ?_
      refine GL.v Wmv ?_
      refine GL.nil ?_
      -- round of loop 1, path TT
      rw [← readsOf_hit hil h2]
      refine GE.round (i + 1, _, _) (by dsimp only; omega) (by dsimp only; omega) Wkp Wsb
    · -- TF
      refine GC.skip ?_
      refine GE.block ?_
      refine GE.seq ?_
      refine GC.region ?_
      refine GL.v Wad ?_
      refine GL.v Wmv ?_
      refine GL.nil ?_
      -- round of loop 1, path TF
      refine GE.round (i + 1, B, d) (by dsimp only; omega) (by dsimp only; omega) (by dsimp only; rw [readsOf_miss hil h2]; repeat (first | exact Keeps.nil | refine Keeps.cons rfl ?_)) (by dsimp only; rw [readsOf_miss hil h2]; exact Wsb)
  · -- F
    have hie : i = ps.length := by omega
    subst hie
    rw [List.take_length]
    have hrl2 := readsOf_length ps
    refine GC.exit ?_
    refine GE.seq_exit ?_
    refine GE.loop_exit ?_
    refine GE.block_exit ?_
    refine GE.seq ?_
    refine GC.seq ?_
    refine GC.region ?_
    refine GL.v Wmv ?_
    refine GL.callP rfl rfl Wpk (Sort_spec _ _ _ _ _ (by omega)) ?_
    rintro _ _ ⟨ys, hys1, hys2, rfl, rfl⟩
    have e1 : (readsOf ps).length = ys.length := hys1.1.symm
    rw [e1]
    refine GL.nil ?_
    refine GE.seq ?_
    refine GC.seq ?_
    refine GC.region ?_
    refine GL.v Wmv ?_
    refine GL.callP rfl rfl Wpk (Compact_spec _ _ _ _ _ (by omega) hys2) ?_
    rintro _ _ ⟨zs, hz1, hz2, hz3, rfl, rfl⟩
    obtain rfl := mayL_eq hf hz1 (fun x => (hz2 x).trans (hys1.2 x))
    refine GL.row_cap (by exact Pick.head) fun hc1 hc2 => ?_
    refine GL.callF rfl rfl (ClipInt_spec _ _ _ _ _ (by omega)) ?_
    refine GL.row_clip (by exact Pick.head) ?_
    refine GL.v Wag ?_
    refine GL.nil ?_
    refine GE.seq ?_
    refine GC.ret ?_
    -- returns, path F
    refine GE.ret_tmp (L' := row intE B (mayL ps).length (mayL ps) :: L) (.inl rfl) rfl rfl Wsb ?_
    exact ⟨B, rfl, rfl⟩
theorem smayRead_spec (w0 : World) (L : List Asn) (A : Option Addr) (c : Nat) (ps : List Part) (hR : Rd w0 L partE A c ps) (hl : ps.length ≤ 1100000) :
    Tr Try.prog 146 #[.agg #[.slice A ps.length c]] w0 L (fun v L' => ∃ B d, v = .slice B (mayL ps).length d ∧ L' = row intE B d (mayL ps) :: L) := by
  refine Tr.enter (args := [.agg #[.slice A ps.length c]]) Try.func146 Try.ntmps146 rfl rfl ?_
  refine GC.seq ?_
  refine GC.region ?_
  refine GL.box_agg rfl rfl ?_; intro g1
  refine GL.v Wag ?_
  refine GL.nil ?_
  refine GE.seq ?_
  refine GC.seq ?_
  refine GC.region ?_
  refine GL.buildSlice rfl (by first | exact bsInt0 | exact bsInt1 _ | exact bsInt2 _ _ | exact bsInt3 _ _ _ | exact bsInt4 _ _ _ _ | exact bsInt5 _ _ _ _ _ | exact bsInt6 _ _ _ _ _ _ | exact bsInt7 _ _ _ _ _ _ _ | exact bsInt8 _ _ _ _ _ _ _ _ | exact bsInt9 _ _ _ _ _ _ _ _ _ | exact bsInt10 _ _ _ _ _ _ _ _ _ _ | exact bsPart0 | exact bsPart1 ⟨_, _, _, _, _⟩ | exact bsNode1 ⟨_, _, _, _⟩ | exact bsPtr3 _ _ _ | exact bsSl0 | exact bsSl1 ⟨_, _, _⟩) rfl (by decide) rfl ?_; intro g6
  refine GL.v Wag ?_
  refine GL.nil ?_
  refine GE.seq ?_
  refine GC.seq ?_
  refine GC.seq ?_
  refine GC.region ?_
  refine GL.v Wag ?_
  refine GL.nil ?_
  refine GE.seq ?_
  refine GC.block ?_
  -- loop 1: carried slots [3, 4]
  refine GC.loopK (α := Nat × Option Addr × Nat) (fun x => x.1 ≤ 10) (fun x => [(3, .slice x.2.1 (mayU x.1 ps).length x.2.2), (4, .int .i64 x.1)]) [(1, _)] (fun x => row intE x.2.1 x.2.2 (mayU x.1 ps) :: blk g1 49 [.slice A ps.length c] :: L) (fun x => 10 - x.1) (0, some ⟨g6, 0, none⟩, 0) Wkp Wsb (Nat.zero_le _) ?_
  rintro ⟨n, B, d⟩ hn
  dsimp only at hn ⊢
  have hml := mayU_length n ps
  refine GC.seq ?_
  refine GC.seq ?_
  refine GC.region ?_
  refine GL.v Wmv ?_
  refine GL.v Wls ?_
  refine GL.nil ?_
  refine GE.seq ?_
  refine GC.ifs (fun h1 => ?_) (fun h1 => ?_)
  · -- T
    have hn10 : n < 10 := by omega
    refine GC.skip ?_
    refine GE.seq ?_
    refine GC.seq ?_
    refine GC.block ?_
    refine GC.seq ?_
    refine GC.region ?_
    refine GL.v Wag ?_
    refine GL.nil ?_
    refine GE.seq ?_
    refine GC.block ?_
    -- loop 2: carried slots [3, 5]
    refine GC.loopK (α := Nat) (fun i => i ≤ ps.length ∧ ∀ i' (h : i' < i) (h' : i' < ps.length), ¬ (ps[i'].kind = 1 ∧ ps[i'].n = n)) (fun i => [(3, .slice B (mayU n ps).length d), (5, .int .i64 i)]) [(1, _), (4, _)] (fun i => row intE B d (mayU n ps) :: blk g1 49 [.slice A ps.length c] :: L) (fun i => ps.length - i) 0 Wkp Wsb ⟨Nat.zero_le _, fun _ h => by omega⟩ ?_
    rintro i ⟨hi, hno⟩
    refine GC.seq ?_
    refine GC.seq ?_
    refine GC.region ?_
    refine GL.v Wmv ?_
    refine GL.v Wfa ?_
    refine GL.v Wlb ?_
    refine GL.v Wln ?_
    refine GL.v Wls ?_
    refine GL.nil ?_
    refine GE.seq ?_
    refine GC.ifs (fun h2 => ?_) (fun h2 => ?_)
    · -- TT
      have hil : i < ps.length := by omega
      refine GC.skip ?_
      refine GE.seq ?_
      refine GC.seq ?_
      refine GC.block ?_
      refine GC.seq ?_
      refine GC.region ?_
      refine GL.v Wfa ?_
      refine GL.v Wlb ?_
      refine GL.v Wmv ?_
      refine GL.v Wix ?_
      refine GL.v Wfa ?_
      refine GL.v Wlef ?_
      refine GL.v Weq ?_
      refine GL.v Wmv ?_
      refine GL.gs (fun h3 => ?_) (fun h3 => ?_)
      · -- TTt
        refine GL.want rfl rfl ?_
        refine GL.v Wfa ?_
        refine GL.want rfl rfl ?_
        refine GL.v Wlb ?_
        refine GL.want rfl rfl ?_
        refine GL.v Wmv ?_
        refine GL.want rfl rfl ?_
        refine GL.v Wix ?_
        refine GL.want rfl rfl ?_
        refine GL.v Wfa ?_
        refine GL.want rfl rfl ?_
        refine GL.v Wlef ?_
        refine GL.want rfl rfl ?_
        refine GL.v Wmv ?_
        refine GL.want rfl rfl ?_
        refine GL.v Weq ?_
        refine GL.v Wpt ?_
        refine GL.nil ?_
        refine GE.seq ?_
        refine GC.ifs (fun h4 => ?_) (fun h4 => ?_)
        · -- TTtT
          refine GC.seq ?_
          refine GC.region ?_
          refine GL.v Wmv ?_
          refine GL.v Wmv ?_
          refine GL.buildSlice rfl (by first | exact bsInt0 | exact bsInt1 _ | exact bsInt2 _ _ | exact bsInt3 _ _ _ | exact bsInt4 _ _ _ _ | exact bsInt5 _ _ _ _ _ | exact bsInt6 _ _ _ _ _ _ | exact bsInt7 _ _ _ _ _ _ _ | exact bsInt8 _ _ _ _ _ _ _ _ | exact bsInt9 _ _ _ _ _ _ _ _ _ | exact bsInt10 _ _ _ _ _ _ _ _ _ _ | exact bsPart0 | exact bsPart1 ⟨_, _, _, _, _⟩ | exact bsNode1 ⟨_, _, _, _⟩ | exact bsPtr3 _ _ _ | exact bsSl0 | exact bsSl1 ⟨_, _, _⟩) rfl (by decide) rfl ?_; intro g37
          first | (refine GL.append rfl rfl Wpk (by assumption) Wim (by first | rfl | (simp; done) | (simp; omega)) (by first | rfl | (simp; done) | (simp; omega)) (by first | omega | (simp; omega)) (by first | omega | (simp; omega)) rfl ?_; intro A38 c38) | (refine GL.append rfl rfl Wpk (Rd.of_pick Wpk) Imp.refl (by first | rfl | (simp; done) | (simp; omega)) (by first | rfl | (simp; done) | (simp; omega)) (by first | omega | (simp; omega)) (by first | omega | (simp; omega)) rfl ?_; intro A38 c38)
          refine GL.v Wag ?_
          refine GL.nil ?_
          refine GE.seq ?_
          refine GC.exit ?_
          refine GE.block_past rfl ?_
          refine GE.seq_exit ?_
          refine GE.loop_exit ?_
          refine GE.block_exit ?_
          refine GE.block ?_
          refine GE.seq ?_
          refine GC.region ?_
          refine GL.v Wmv ?_
          refine GL.v Wad ?_
          refine GL.v Wag ?_
          refine GL.nil ?_
          -- round of loop 1, path TTtT
          rw [← mayU_hit hil h3 h4]
          refine GE.round (n + 1, _, _) (by dsimp only; omega) (by dsimp only; omega) Wkp Wsb
        · -- TTtF
          refine GC.skip ?_
          refine GE.block ?_
          refine GE.seq ?_
          refine GC.region ?_
          refine GL.v Wmv ?_
          refine GL.v Wad ?_
          refine GL.v Wag ?_
          refine GL.nil ?_
          -- round of loop 2, path TTtF
          refine GE.round (i + 1) ⟨by omega, fun i' h h' => ?_⟩ (by omega) Wkp Wsb
          by_cases e : i' = i
          · subst e; exact fun h => h4 h.2
          · exact hno i' (by omega) h'
      · -- TTf
        refine GL.unwant rfl rfl rfl rfl ?_
        refine GL.unwant rfl rfl rfl rfl ?_
        refine GL.unwant rfl rfl rfl rfl ?_
        refine GL.unwant rfl rfl rfl rfl ?_
        refine GL.unwant rfl rfl rfl rfl ?_
        refine GL.unwant rfl rfl rfl rfl ?_
        refine GL.unwant rfl rfl rfl rfl ?_
        refine GL.unwant rfl rfl rfl rfl ?_
        refine GL.v Wpf ?_
        refine GL.nil ?_
        refine GE.seq ?_
        refine GC.cond_false rfl ?_
        refine GC.skip ?_
        refine GE.block ?_
        refine GE.seq ?_
        refine GC.region ?_
        refine GL.v Wmv ?_
        refine GL.v Wad ?_
        refine GL.v Wag ?_
        refine GL.nil ?_
        -- round of loop 2, path TTf
        refine GE.round (i + 1) ⟨by omega, fun i' h h' => ?_⟩ (by omega) Wkp Wsb
        by_cases e : i' = i
        · subst e; exact fun h => h3 h.1
        · exact hno i' (by omega) h'
    · -- TF
      refine GC.exit ?_
      refine GE.seq_exit ?_
      refine GE.loop_exit ?_
      refine GE.block_exit ?_
      refine GE.block ?_
      refine GE.seq ?_
      refine GC.region ?_
      refine GL.v Wmv ?_
      refine GL.v Wad ?_
      refine GL.v Wag ?_
      refine GL.nil ?_
      -- round of loop 1, path TF
      have hm := mayU_miss (n := n) (ps := ps) (fun i' h' => hno i' (by omega) h')
      refine GE.round (n + 1, B, d) (by dsimp only; omega) (by dsimp only; omega) (by dsimp only; rw [hm]; repeat (first | exact Keeps.nil | refine Keeps.cons rfl ?_)) (by dsimp only; rw [hm]; exact Wsb)
  · -- F
    have hne : n = 10 := by omega
    subst hne
    rw [mayU_ten]
    refine GC.exit ?_
    refine GE.seq_exit ?_
    refine GE.loop_exit ?_
    refine GE.block_exit ?_
    refine GE.seq ?_
    refine GC.seq ?_
    refine GC.region ?_
    refine GL.v Wmv ?_
    refine GL.v Wag ?_
    refine GL.nil ?_
    refine GE.seq ?_
    refine GC.ret ?_
    -- returns, path F
    refine GE.ret_tmp (L' := row intE B d (mayL ps) :: L) (.inl rfl) rfl rfl Wsb ?_
    exact ⟨B, d, rfl, rfl⟩

/-- a graph is read -/
structure RdG (w0 : World) (L : List Asn) (A : Option Addr) (c : Nat) (ms : List NdM) : Prop where
  nodes : Rd w0 L nodeE A c ms
  parts : ∀ i (h : i < ms.length), Rd w0 L partE ms[i].a ms[i].c ms[i].parts
theorem RdG.imp {w0 : World} {L L' : List Asn} {A : Option Addr} {c : Nat} {ms : List NdM} (h : RdG w0 L' A c ms) (hi : Imp w0 L L') : RdG w0 L A c ms := ⟨h.nodes.imp hi, fun i hl => (h.parts i hl).imp hi⟩
def gr (ms : List NdM) : List Nd := ms.map NdM.nd
@[simp] theorem gr_length (ms : List NdM) : (gr ms).length = ms.length := by simp [gr]
theorem gr_get {ms : List NdM} {i : Nat} (h : i < (gr ms).length) : (gr ms)[i] = (ms[i]'(by simpa using h)).nd := by simp [gr]
theorem kindAt_gr {ms : List NdM} {k : Int} (h : k.toNat < ms.length) : kindAt (gr ms) k = ms[k.toNat].kind := by
  simp [kindAt, gr, h, NdM.nd]
/-- the sizes of a graph that a law hands on -/
def SizeG (ms : List NdM) : Prop := ms.length ≤ 1100000 ∧ ∀ i (h : i < ms.length), ms[i].parts.length ≤ 1100000

theorem SizeG.le {ms : List NdM} (h : SizeG ms) : ms.length ≤ 1100000 := h.1
theorem goodReads_spec (w0 : World) (L : List Asn) (A : Option Addr) (c : Nat) (ms : List NdM) (hG : RdG w0 L A c ms) (i : Nat) (hi : i < ms.length) (hl : ms[i].parts.length ≤ 1100000) :
    Tr Try.prog 114 #[.agg #[.slice A ms.length c], .int .i64 i] w0 L (fun v L' => v = .bool (readsOkB (gr ms) i ms[i].parts) ∧ L' = L) := by
  have hN := hG.nodes
  have hP := hG.parts i hi
  refine Tr.enter (args := [.agg #[.slice A ms.length c], .int .i64 i]) Try.func114 Try.ntmps114 rfl rfl ?_
  refine GC.seq ?_
  refine GC.region ?_
  refine GL.box_agg rfl rfl ?_; intro g2
  refine GL.v Wag ?_
  refine GL.nil ?_
  refine GE.seq ?_
  refine GC.seq ?_
  refine GC.region ?_
  refine GL.v Wfa ?_
  refine GL.v Wlb ?_
  refine GL.v Wmv ?_
  refine GL.v Wix ?_
  refine GL.v Wfa ?_
  refine GL.v Wlef1 ?_
  refine GL.call rfl rfl (smayRead_spec _ _ _ _ _ Wrd Wom) ?_
  rintro _ _ ⟨B13, d13, rfl, rfl⟩
  have hml := mayL_length ms[i].parts
  refine GL.v Wag ?_
  refine GL.nil ?_
  refine GE.seq ?_
  refine GC.seq ?_
  refine GC.seq ?_
  refine GC.region ?_
  refine GL.v Wag ?_
  refine GL.nil ?_
  refine GE.seq ?_
  refine GC.block ?_
  -- loop 1: carried slots [6]
  refine GC.loopK (α := Nat) (fun k => k ≤ (mayL ms[i].parts).length ∧ ∀ k' (h : k' < k) (h' : k' < (mayL ms[i].parts).length), (mayL ms[i].parts)[k'] < i ∧ kindAt (gr ms) (mayL ms[i].parts)[k'] ≠ 2) (fun k => [(6, .int .i64 k)]) [(1, _), (2, _), (5, _)] (fun k => row intE B13 d13 (mayL ms[i].parts) :: blk g2 25 [.slice A ms.length c] :: L) (fun k => (mayL ms[i].parts).length - k) 0 Wkp Wsb ⟨Nat.zero_le _, fun _ h => by omega⟩ ?_
  rintro k ⟨hk, hok⟩
  refine GC.seq ?_
  refine GC.seq ?_
  refine GC.region ?_
  refine GL.v Wmv ?_
  refine GL.v Wmv ?_
  refine GL.v Wln ?_
  refine GL.v Wls ?_
  refine GL.nil ?_
  refine GE.seq ?_
  refine GC.ifs (fun h1 => ?_) (fun h1 => ?_)
  · -- T
    have hkl : k < (mayL ms[i].parts).length := by omega
    have hk0 := (mem_mayL.1 (List.getElem_mem hkl)).1
    refine GC.skip ?_
    refine GE.seq ?_
    refine GC.seq ?_
    refine GC.block ?_
    refine GC.seq ?_
    refine GC.region_quiet mixed (by kernel_rfl) ?_
    refine GL.v Wmv ?_
    refine GL.v Wmv ?_
    refine GL.v Wix ?_
    refine GL.v Wle ?_
    refine GL.v Wmv ?_
    refine GL.v Wgq ?_
    refine GL.v Wmv ?_
    refine GL.gs (fun h2 => ?_) (fun h2 => ?_)
    · -- Tt
      refine GL.unwant rfl rfl rfl rfl ?_
      refine GL.unwant rfl rfl rfl rfl ?_
      refine GL.unwant rfl rfl rfl rfl ?_
      refine GL.unwant rfl rfl rfl rfl ?_
      refine GL.unwant rfl rfl rfl rfl ?_
      refine GL.unwant rfl rfl rfl rfl ?_
      refine GL.unwant rfl rfl rfl rfl ?_
      refine GL.unwant rfl rfl rfl rfl ?_
      refine GL.unwant rfl rfl rfl rfl ?_
      refine GL.unwant rfl rfl rfl rfl ?_
      refine GL.v Wpt ?_
      refine GL.nil ?_
      refine GE.seq ?_
      refine GC.cond_true rfl ?_
      refine GC.seq ?_
      refine GC.region ?_
      refine GL.v Wag ?_
      refine GL.nil ?_
      refine GE.seq ?_
      refine GC.ret ?_
      refine GE.block_ret ?_
      refine GE.seq_ret ?_
      refine GE.loop_ret ?_
      refine GE.block_ret ?_
      refine GE.seq_ret ?_
      -- returns, path Tt
      refine GE.ret_tmp (L' := L) (.inl rfl) rfl rfl Wsb ?_
      exact ⟨by rw [readsOkB_not.2 (fun h => by have := (h _ (List.getElem_mem hkl)).1; omega)], rfl⟩
    · -- Tf
      refine GL.want rfl rfl ?_
      refine GL.v Wfa ?_
      refine GL.want rfl rfl ?_
      refine GL.v Wlb ?_
      refine GL.want rfl rfl ?_
      refine GL.v Wmv ?_
      refine GL.want rfl rfl ?_
      refine GL.v Wmv ?_
      refine GL.want rfl rfl ?_
      refine GL.v Wix ?_
      refine GL.want rfl rfl ?_
      refine GL.v Wle ?_
      refine GL.want rfl rfl ?_
      refine GL.v Wix ?_
      refine GL.want rfl rfl ?_
      refine GL.v Wfa ?_
      refine GL.want rfl rfl ?_
      refine GL.v Wlef ?_
      refine GL.want rfl rfl ?_
      refine GL.v Weq ?_
      refine GL.v Wpf ?_
      refine GL.nil ?_
      refine GE.seq ?_
      refine GC.ifs (fun h3 => ?_) (fun h3 => ?_)
      · -- TfT
        refine GC.seq ?_
        refine GC.region ?_
        refine GL.v Wag ?_
        refine GL.nil ?_
        refine GE.seq ?_
        refine GC.ret ?_
        refine GE.block_ret ?_
        refine GE.seq_ret ?_
        refine GE.loop_ret ?_
        refine GE.block_ret ?_
        refine GE.seq_ret ?_
        -- returns, path TfT
        refine GE.ret_tmp (L' := L) (.inl rfl) rfl rfl Wsb ?_
        exact ⟨by rw [readsOkB_not.2 (fun h => (h _ (List.getElem_mem hkl)).2 (by rw [kindAt_gr (by omega)]; exact h3))], rfl⟩
      · -- TfF
        refine GC.skip ?_
        refine GE.block ?_
        refine GE.seq ?_
        refine GC.region ?_
        refine GL.v Wmv ?_
        refine GL.v Wad ?_
        refine GL.v Wag ?_
        refine GL.nil ?_
        -- round of loop 1, path TfF
        refine GE.round (k + 1) ⟨by omega, fun k' h h' => ?_⟩ (by omega) Wkp Wsb
        by_cases e : k' = k
        · subst e; exact ⟨by omega, by rw [kindAt_gr (by omega)]; exact h3⟩
        · exact hok k' (by omega) h'
  · -- F
    refine GC.exit ?_
    refine GE.seq_exit ?_
    refine GE.loop_exit ?_
    refine GE.block_exit ?_
    refine GE.seq ?_
    refine GC.seq ?_
    refine GC.region ?_
    refine GL.v Wag ?_
    refine GL.nil ?_
    refine GE.seq ?_
    refine GC.ret ?_
    -- returns, path F
    refine GE.ret_tmp (L' := L) (.inl rfl) rfl rfl Wsb ?_
    exact ⟨by rw [readsOkB_iff.2 (fun n hn => by obtain ⟨k', h', rfl⟩ := List.mem_iff_getElem.1 hn; exact hok k' (by omega) h')], rfl⟩
end SG
