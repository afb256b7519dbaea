/- Contracts: heights, users and ways in graphs, of the reference. -/
import Derived.Test.YtphapjfhcbledaaD8
import Derived.Test.YtphapjfhcbledaaD17
import Derived.Test.YtphapjfhcbledaaPlain10
namespace SG
open Go Go.RowKit Go.Proofs
set_option linter.unusedVariables false
set_option linter.unusedSimpArgs false
set_option maxRecDepth 100000
theorem heights_spec (w0 : World) (L : List Asn) (A : Option Addr) (c : Nat) (ms : List NdM) (hG : RdG w0 L A c ms) (hV : ValidG (gr ms)) :
    Tr Try.prog 47 #[.agg #[.slice A ms.length c]] w0 L (fun v L' => ∃ B d, v = .slice B (hgtR (gr ms) ms.length).length d ∧ L' = row intE B d (hgtR (gr ms) ms.length) :: L) := by
  have hN := hG.nodes
  have hl10 : ms.length ≤ 10 := by have := hV.1; simpa using this
  refine Tr.enter (args := [.agg #[.slice A ms.length c]]) Try.func47 Try.ntmps47 rfl rfl ?_
  refine GC.seq ?_
  refine GC.region ?_
  refine GL.box_agg rfl rfl ?_; intro g1
  refine GL.v Wag ?_
  refine GL.nil ?_
  refine GE.seq ?_
  refine GC.seq ?_
  refine GC.region ?_
  refine GL.buildSlice rfl (by first | exact bsInt0 | exact bsInt1 _ | exact bsInt2 _ _ | exact bsInt3 _ _ _ | exact bsInt4 _ _ _ _ | exact bsInt5 _ _ _ _ _ | exact bsInt6 _ _ _ _ _ _ | exact bsInt7 _ _ _ _ _ _ _ | exact bsInt8 _ _ _ _ _ _ _ _ | exact bsInt9 _ _ _ _ _ _ _ _ _ | exact bsInt10 _ _ _ _ _ _ _ _ _ _ | exact bsPart0 | exact bsPart1 ⟨_, _, _, _, _⟩ | exact bsNode1 ⟨_, _, _, _⟩ | exact bsPtr3 _ _ _) rfl (by decide) rfl ?_; intro g8
  refine GL.v Wag ?_
  refine GL.nil ?_
  refine GE.seq ?_
  refine GC.seq ?_
  refine GC.seq ?_
  refine GC.region ?_
  refine GL.v Wag ?_
  refine GL.nil ?_
  refine GE.seq ?_
  refine GC.block ?_
  -- loop 1: carried slots [3, 4]
  refine GC.loopK (α := Nat × Option Addr × Nat) (fun x => x.1 ≤ ms.length) (fun x => [(3, .slice x.2.1 (hgtR (gr ms) x.1).length x.2.2), (4, .int .i64 x.1)]) [(1, _)] (fun x => row intE x.2.1 x.2.2 (hgtR (gr ms) x.1) :: blk g1 25 [.slice A ms.length c] :: L) (fun x => ms.length - x.1) (0, some ⟨g8, 0, none⟩, 0) Wkp Wsb (Nat.zero_le _) ?_
  rintro ⟨i, B, d⟩ hi
  dsimp only at hi ⊢
  have hhl := hgtR_length (gr ms) i
  refine GC.seq ?_
  refine GC.seq ?_
  refine GC.region ?_
  refine GL.v Wmv ?_
  refine GL.v Wfa ?_
  refine GL.v Wlb ?_
  refine GL.v Wln ?_
  refine GL.v Wls ?_
  refine GL.nil ?_
  refine GE.seq ?_
  refine GC.ifs (fun h1 => ?_) (fun h1 => ?_)
  · -- T
    have hil : i < ms.length := by omega
    have hP := hG.parts i hil
    have hig : i < (gr ms).length := by simpa using hil
    have hnd := validG_node hV hig
    rw [gr_get] at hnd
    have hp12 : ms[i].parts.length ≤ 12 := hnd.1
    have hma : mayAt (gr ms) i = mayL ms[i].parts := by rw [mayAt_eq hig, gr_get]; rfl
    have hml := mayL_length ms[i].parts
    refine GC.skip ?_
    refine GE.seq ?_
    refine GC.seq ?_
    refine GC.block ?_
    refine GC.seq ?_
    refine GC.region ?_
    refine GL.v Wag ?_
    refine GL.nil ?_
    refine GE.seq ?_
    refine GC.seq ?_
    refine GC.region ?_
    refine GL.v Wfa ?_
    refine GL.v Wlb ?_
    refine GL.v Wmv ?_
    refine GL.v Wix ?_
    refine GL.v Wfa ?_
    refine GL.v Wlef1 ?_
    refine GL.call rfl rfl (smayRead_spec _ _ _ _ _ Wrd Wom) ?_
    rintro _ _ ⟨B22, d22, rfl, rfl⟩
    refine GL.v Wag ?_
    refine GL.nil ?_
    refine GE.seq ?_
    refine GC.seq ?_
    refine GC.seq ?_
    refine GC.region ?_
    refine GL.v Wag ?_
    refine GL.nil ?_
    refine GE.seq ?_
    refine GC.block ?_
    -- loop 2: carried slots [5, 7]
    refine GC.loopK (α := Nat) (fun t => t ≤ (mayL ms[i].parts).length) (fun t => [(5, .int .i64 (maxes (fun j => hgt (gr ms) j.toNat + 1) ((mayL ms[i].parts).take t) 0)), (7, .int .i64 t)]) [(1, _), (3, _), (4, _), (6, _)] (fun t => row intE B22 d22 (mayL ms[i].parts) :: row intE B d (hgtR (gr ms) i) :: blk g1 25 [.slice A ms.length c] :: L) (fun t => (mayL ms[i].parts).length - t) 0 Wkp Wsb (Nat.zero_le _) ?_
    rintro t ht
    refine GC.seq ?_
    refine GC.seq ?_
    refine GC.region ?_
    refine GL.v Wmv ?_
    refine GL.v Wmv ?_
    refine GL.v Wln ?_
    refine GL.v Wls ?_
    refine GL.nil ?_
    refine GE.seq ?_
    refine GC.ifs (fun h2 => ?_) (fun h2 => ?_)
    · -- TT
      have htl : t < (mayL ms[i].parts).length := by omega
      have hk := mayAt_lt hV (i := i) (by rw [hma]; exact List.getElem_mem htl)
      have hb0 := hgt_nonneg (gr ms) hV ((mayL ms[i].parts)[t]).toNat
      have hb1 := hgt_le hV ((mayL ms[i].parts)[t]).toNat
      have hlk : (hgtR (gr ms) i)[((mayL ms[i].parts)[t]).toNat]'(by omega) = hgt (gr ms) ((mayL ms[i].parts)[t]).toNat := hgtR_get _
      have hmx := maxes_take (f := fun j => hgt (gr ms) j.toNat + 1) htl 0
      refine GC.skip ?_
      refine GE.seq ?_
      refine GC.seq ?_
      refine GC.block ?_
      refine GC.region ?_
      refine GL.v Wmv ?_
      refine GL.v Wmv ?_
      refine GL.v Wmv ?_
      refine GL.v Wmv ?_
      refine GL.v Wix ?_
      refine GL.v Wle ?_
      refine GL.v Wix ?_
      refine GL.v Wle ?_
      refine GL.v Wad ?_
      refine GL.v (by exact EvP.r (Ev.max rfl rfl)) ?_
      refine GL.v Wag ?_
      refine GL.nil ?_
      refine GE.block ?_
      refine GE.seq ?_
      refine GC.region ?_
      refine GL.v Wmv ?_
      refine GL.v Wad ?_
      refine GL.v Wag ?_
      refine GL.nil ?_
      -- round of loop 2, path TT
      rw [hlk, ← hmx]
      refine GE.round (t + 1) (by omega) (by omega) Wkp Wsb
    · -- TF
      have hte : t = (mayL ms[i].parts).length := by omega
      subst hte
      rw [List.take_length, ← hma, ← hgt_eq hV]
      refine GC.exit ?_
      refine GE.seq_exit ?_
      refine GE.loop_exit ?_
      refine GE.block_exit ?_
      refine GE.seq ?_
      refine GC.region ?_
      refine GL.v Wmv ?_
      refine GL.v Wmv ?_
      refine GL.buildSlice rfl (by first | exact bsInt0 | exact bsInt1 _ | exact bsInt2 _ _ | exact bsInt3 _ _ _ | exact bsInt4 _ _ _ _ | exact bsInt5 _ _ _ _ _ | exact bsInt6 _ _ _ _ _ _ | exact bsInt7 _ _ _ _ _ _ _ | exact bsInt8 _ _ _ _ _ _ _ _ | exact bsInt9 _ _ _ _ _ _ _ _ _ | exact bsInt10 _ _ _ _ _ _ _ _ _ _ | exact bsPart0 | exact bsPart1 ⟨_, _, _, _, _⟩ | exact bsNode1 ⟨_, _, _, _⟩ | exact bsPtr3 _ _ _) rfl (by decide) rfl ?_; intro g41
      first | (refine GL.append rfl rfl Wpk (by assumption) Wim (by first | rfl | (simp; done) | (simp; omega)) (by first | rfl | (simp; done) | (simp; omega)) (by first | omega | (simp; omega)) (by first | omega | (simp; omega)) rfl ?_; intro A42 c42) | (refine GL.append rfl rfl Wpk (Rd.of_pick Wpk) Imp.refl (by first | rfl | (simp; done) | (simp; omega)) (by first | rfl | (simp; done) | (simp; omega)) (by first | omega | (simp; omega)) (by first | omega | (simp; omega)) rfl ?_; intro A42 c42)
      refine GL.v Wag ?_
      refine GL.nil ?_
      refine GE.block ?_
      refine GE.seq ?_
      refine GC.region ?_
      refine GL.v Wmv ?_
      refine GL.v Wad ?_
      refine GL.v Wag ?_
      refine GL.nil ?_
      -- round of loop 1, path TF
      rw [hgtR_succ]
      refine GE.round (i + 1, _, _) (by dsimp only; omega) (by dsimp only; omega) Wkp Wsb
  · -- F
    have hie : i = ms.length := by omega
    subst hie
    refine GC.exit ?_
    refine GE.seq_exit ?_
    refine GE.loop_exit ?_
    refine GE.block_exit ?_
    refine GE.seq ?_
    refine GC.seq ?_
    refine GC.region ?_
    refine GL.v Wmv ?_
    refine GL.v Wag ?_
    refine GL.nil ?_
    refine GE.seq ?_
    refine GC.ret ?_
    -- returns, path F
    refine GE.ret_tmp (L' := row intE B d (hgtR (gr ms) ms.length) :: L) (.inl rfl) rfl rfl Wsb ?_
    exact ⟨_, _, rfl, rfl⟩
theorem sHeightsOf_spec (w0 : World) (L : List Asn) (A : Option Addr) (c : Nat) (ms : List NdM) (hG : RdG w0 L A c ms) (hS : SizeG ms) :
    Tr Try.prog 16 #[.agg #[.slice A ms.length c]] w0 L (fun v L' => ∃ B d, v = .slice B (hgtsL (gr ms)).length d ∧ L' = row intE B d (hgtsL (gr ms)) :: L) := by
  have hN := hG.nodes
  refine Tr.enter (args := [.agg #[.slice A ms.length c]]) Try.func16 Try.ntmps16 rfl rfl ?_
  refine GC.seq ?_
  refine GC.region ?_
  refine GL.box_agg rfl rfl ?_; intro g1
  refine GL.v Wag ?_
  refine GL.nil ?_
  refine GE.seq ?_
  refine GC.seq ?_
  refine GC.seq ?_
  refine GC.region ?_
  refine GL.v Wlba ?_
  refine GL.callF rfl rfl (svalidGraph_spec _ _ _ _ _ (by first | assumption | exact RdG.imp (by assumption) Wim | exact RdG.of_pick Wpk Wpk) (by assumption)) ?_
  refine GL.v Wnt ?_
  refine GL.nil ?_
  refine GE.seq ?_
  refine GC.ifs (fun h1 => ?_) (fun h1 => ?_)
  · -- T
    refine GC.seq ?_
    refine GC.region ?_
    refine GL.v Wag ?_
    refine GL.nil ?_
    refine GE.seq ?_
    refine GC.ret ?_
    refine GE.seq_ret ?_
    -- returns, path T
    refine GE.state (fun _ hs => hs.empty intE none) ?_
    refine GE.ret_tmp (L' := row intE none 0 [] :: L) (.inl rfl) rfl rfl Wsb ?_
    rw [hgtsL_no h1]
    exact ⟨none, 0, rfl, rfl⟩
  · -- F
    have hV := validG_iff.1 h1
    refine GC.skip ?_
    refine GE.seq ?_
    refine GC.seq ?_
    refine GC.region ?_
    refine GL.v Wlba ?_
    refine GL.call rfl rfl (heights_spec w0 _ A c ms (by first | assumption | exact RdG.imp (by assumption) Wim | exact RdG.of_pick Wpk Wpk) hV) ?_
    rintro _ _ ⟨B, d, rfl, rfl⟩
    refine GL.v Wag ?_
    refine GL.nil ?_
    refine GE.seq ?_
    refine GC.ret ?_
    -- returns, path F
    refine GE.ret_tmp (L' := row intE B d (hgtR (gr ms) ms.length) :: L) (.inl rfl) rfl rfl Wsb ?_
    rw [hgtsL_yes h1, gr_length]
    exact ⟨_, _, rfl, rfl⟩
theorem users_spec (w0 : World) (L : List Asn) (A : Option Addr) (c : Nat) (ms : List NdM) (hG : RdG w0 L A c ms) (hV : ValidG (gr ms)) (n : Nat) (hn : n < ms.length) :
    Tr Try.prog 56 #[.agg #[.slice A ms.length c], .int .i64 n] w0 L (fun v L' => ∃ B d, v = .slice B (whichL ms.length (usesB (gr ms) n)).length d ∧ L' = row intE B d (whichL ms.length (usesB (gr ms) n)) :: L) := by
  have hN := hG.nodes
  have hl10 : ms.length ≤ 10 := by have := hV.1; simpa using this
  refine Tr.enter (args := [.agg #[.slice A ms.length c], .int .i64 n]) Try.func56 Try.ntmps56 rfl rfl ?_
  refine GC.seq ?_
  refine GC.region ?_
  refine GL.box_agg rfl rfl ?_; intro g2
  refine GL.v Wag ?_
  refine GL.nil ?_
  refine GE.seq ?_
  refine GC.seq ?_
  refine GC.region ?_
  refine GL.buildSlice rfl (by first | exact bsInt0 | exact bsInt1 _ | exact bsInt2 _ _ | exact bsInt3 _ _ _ | exact bsInt4 _ _ _ _ | exact bsInt5 _ _ _ _ _ | exact bsInt6 _ _ _ _ _ _ | exact bsInt7 _ _ _ _ _ _ _ | exact bsInt8 _ _ _ _ _ _ _ _ | exact bsInt9 _ _ _ _ _ _ _ _ _ | exact bsInt10 _ _ _ _ _ _ _ _ _ _ | exact bsPart0 | exact bsPart1 ⟨_, _, _, _, _⟩ | exact bsNode1 ⟨_, _, _, _⟩ | exact bsPtr3 _ _ _) rfl (by decide) rfl ?_; intro g7
  refine GL.v Wag ?_
  refine GL.nil ?_
  refine GE.seq ?_
  refine GC.seq ?_
  refine GC.seq ?_
  refine GC.region ?_
  refine GL.v Wmv ?_
  refine GL.v Wad ?_
  refine GL.v Wag ?_
  refine GL.nil ?_
  refine GE.seq ?_
  refine GC.block ?_
  -- loop 1: carried slots [5, 6]
  refine GC.loopK (α := Nat × Option Addr × Nat) (fun x => x.1 ≤ ms.length) (fun x => [(5, .slice x.2.1 (whichL x.1 (usesB (gr ms) n)).length x.2.2), (6, .int .i64 x.1)]) [(1, _), (2, _)] (fun x => row intE x.2.1 x.2.2 (whichL x.1 (usesB (gr ms) n)) :: blk g2 25 [.slice A ms.length c] :: L) (fun x => ms.length - x.1) (n + 1, some ⟨g7, 0, none⟩, 0) (by dsimp only; rw [users_low hV]; exact Wkp) (by dsimp only; rw [users_low hV]; exact Wsb) (by dsimp only; omega) ?_
  rintro ⟨i, B, d⟩ hi
  dsimp only at hi ⊢
  have hwl := whichL_length i (usesB (gr ms) n)
  refine GC.seq ?_
  refine GC.seq ?_
  refine GC.region ?_
  refine GL.v Wmv ?_
  refine GL.v Wfa ?_
  refine GL.v Wlb ?_
  refine GL.v Wln ?_
  refine GL.v Wls ?_
  refine GL.nil ?_
  refine GE.seq ?_
  refine GC.ifs (fun h1 => ?_) (fun h1 => ?_)
  · -- T
    have hil : i < ms.length := by omega
    have hP := hG.parts i hil
    have hig : i < (gr ms).length := by simpa using hil
    have hnd := validG_node hV hig
    rw [gr_get] at hnd
    have hp12 : ms[i].parts.length ≤ 12 := hnd.1
    have hus : usesB (gr ms) n i = (mayL ms[i].parts).contains (n : Int) := by rw [usesB, mayAt_eq hig, gr_get]; rfl
    have hml := mayL_length ms[i].parts
    refine GC.skip ?_
    refine GE.seq ?_
    refine GC.seq ?_
    refine GC.block ?_
    refine GC.seq ?_
    refine GC.region ?_
    refine GL.v Wfa ?_
    refine GL.v Wlb ?_
    refine GL.v Wmv ?_
    refine GL.v Wix ?_
    refine GL.v Wfa ?_
    refine GL.v Wlef1 ?_
    refine GL.call rfl rfl (smayRead_spec _ _ _ _ _ Wrd Wom) ?_
    rintro _ _ ⟨B23, d23, rfl, rfl⟩
    refine GL.v Wmv ?_
    refine GL.call rfl rfl (placeIn_spec _ _ _ _ _ Wrd Wom _) ?_
    rintro _ _ ⟨k25, rfl, hk25, e25⟩
    rw [e25]; clear e25
    refine GL.v Wgq ?_
    refine GL.nil ?_
    refine GE.seq ?_
    refine GC.ifs (fun h2 => ?_) (fun h2 => ?_)
    · -- TT
      refine GC.region ?_
      refine GL.v Wmv ?_
      refine GL.v Wmv ?_
      refine GL.buildSlice rfl (by first | exact bsInt0 | exact bsInt1 _ | exact bsInt2 _ _ | exact bsInt3 _ _ _ | exact bsInt4 _ _ _ _ | exact bsInt5 _ _ _ _ _ | exact bsInt6 _ _ _ _ _ _ | exact bsInt7 _ _ _ _ _ _ _ | exact bsInt8 _ _ _ _ _ _ _ _ | exact bsInt9 _ _ _ _ _ _ _ _ _ | exact bsInt10 _ _ _ _ _ _ _ _ _ _ | exact bsPart0 | exact bsPart1 ⟨_, _, _, _, _⟩ | exact bsNode1 ⟨_, _, _, _⟩ | exact bsPtr3 _ _ _) rfl (by decide) rfl ?_; intro g29
      first | (refine GL.append rfl rfl Wpk (by assumption) Wim (by first | rfl | (simp; done) | (simp; omega)) (by first | rfl | (simp; done) | (simp; omega)) (by first | omega | (simp; omega)) (by first | omega | (simp; omega)) rfl ?_; intro A30 c30) | (refine GL.append rfl rfl Wpk (Rd.of_pick Wpk) Imp.refl (by first | rfl | (simp; done) | (simp; omega)) (by first | rfl | (simp; done) | (simp; omega)) (by first | omega | (simp; omega)) (by first | omega | (simp; omega)) rfl ?_; intro A30 c30)
      refine GL.v Wag ?_
      refine GL.nil ?_
      refine GE.block ?_
      refine GE.seq ?_
      refine GC.region ?_
      refine GL.v Wmv ?_
      refine GL.v Wad ?_
      refine GL.v Wag ?_
      refine GL.nil ?_
      -- round of loop 1, path TT
      rw [whichL_yes (by rw [hus]; cases hc : (mayL ms[i].parts).contains (n : Int) with | true => rfl | false => exact absurd (hk25.2 hc) (by omega))]
      refine GE.round (i + 1, _, _) (by dsimp only; omega) (by dsimp only; omega) Wkp Wsb
    · -- TF
      refine GC.skip ?_
      refine GE.block ?_
      refine GE.seq ?_
      refine GC.region ?_
      refine GL.v Wmv ?_
      refine GL.v Wad ?_
      refine GL.v Wag ?_
      refine GL.nil ?_
      -- round of loop 1, path TF
      rw [whichL_no (n := i) (p := usesB (gr ms) n) (by rw [hus]; exact hk25.1 (by omega))]
      refine GE.round (i + 1, B, d) (by dsimp only; omega) (by dsimp only; omega) Wkp Wsb
  · -- F
    have hie : i = ms.length := by omega
    subst hie
    refine GC.exit ?_
    refine GE.seq_exit ?_
    refine GE.loop_exit ?_
    refine GE.block_exit ?_
    refine GE.seq ?_
    refine GC.seq ?_
    refine GC.region ?_
    refine GL.v Wmv ?_
    refine GL.v Wag ?_
    refine GL.nil ?_
    refine GE.seq ?_
    refine GC.ret ?_
    -- returns, path F
    refine GE.ret_tmp (L' := row intE B d (whichL ms.length (usesB (gr ms) n)) :: L) (.inl rfl) rfl rfl Wsb ?_
    exact ⟨_, _, rfl, rfl⟩
theorem sUsersOf_spec (w0 : World) (L : List Asn) (A : Option Addr) (c : Nat) (ms : List NdM) (hG : RdG w0 L A c ms) (hS : SizeG ms) (n : Int) :
    Tr Try.prog 20 #[.agg #[.slice A ms.length c], .int .i64 n] w0 L (fun v L' => ∃ B d, v = .slice B (usersL (gr ms) n).length d ∧ L' = row intE B d (usersL (gr ms) n) :: L) := by
  have hN := hG.nodes
  have hSl := hS.1
  refine Tr.enter (args := [.agg #[.slice A ms.length c], .int .i64 n]) Try.func20 Try.ntmps20 rfl rfl ?_
  refine GC.seq ?_
  refine GC.region ?_
  refine GL.box_agg rfl rfl ?_; intro g2
  refine GL.v Wag ?_
  refine GL.nil ?_
  refine GE.seq ?_
  refine GC.seq ?_
  refine GC.seq ?_
  refine GC.region ?_
  refine GL.v Wlba ?_
  refine GL.callF rfl rfl (svalidGraph_spec _ _ _ _ _ (by first | assumption | exact RdG.imp (by assumption) Wim | exact RdG.of_pick Wpk Wpk) (by assumption)) ?_
  refine GL.v Wnt ?_
  refine GL.v Wmv ?_
  refine GL.gs (fun h1 => ?_) (fun h1 => ?_)
  · -- t
    refine GL.unwant rfl rfl rfl rfl ?_
    refine GL.unwant rfl rfl rfl rfl ?_
    refine GL.unwant rfl rfl rfl rfl ?_
    refine GL.unwant rfl rfl rfl rfl ?_
    refine GL.unwant rfl rfl rfl rfl ?_
    refine GL.unwant rfl rfl rfl rfl ?_
    refine GL.unwant rfl rfl rfl rfl ?_
    refine GL.v Wpt ?_
    refine GL.nil ?_
    refine GE.seq ?_
    refine GC.cond_true rfl ?_
    refine GC.seq ?_
    refine GC.region ?_
    refine GL.v Wag ?_
    refine GL.nil ?_
    refine GE.seq ?_
    refine GC.ret ?_
    refine GE.seq_ret ?_
    -- returns, path t
    refine GE.state (fun _ hs => hs.empty intE none) ?_
    refine GE.ret_tmp (L' := row intE none 0 [] :: L) (.inl rfl) rfl rfl Wsb ?_
    rw [usersL, onlyL_no h1]
    exact ⟨none, 0, rfl, rfl⟩
  · -- f
    refine GL.want rfl rfl ?_
    refine GL.v Wmv ?_
    refine GL.want rfl rfl ?_
    refine GL.v Wfa ?_
    refine GL.want rfl rfl ?_
    refine GL.v Wlb ?_
    refine GL.want rfl rfl ?_
    refine GL.v Wln ?_
    refine GL.want rfl rfl ?_
    refine GL.v Wsu ?_
    refine GL.want rfl rfl ?_
    refine GL.callF rfl rfl (inRange_spec _ _ _ _ _) ?_
    refine GL.want rfl rfl ?_
    refine GL.v Wnt ?_
    refine GL.v Wpf ?_
    refine GL.nil ?_
    refine GE.seq ?_
    refine GC.ifs (fun h2 => ?_) (fun h2 => ?_)
    · -- fT
      refine GC.seq ?_
      refine GC.region ?_
      refine GL.v Wag ?_
      refine GL.nil ?_
      refine GE.seq ?_
      refine GC.ret ?_
      refine GE.seq_ret ?_
      -- returns, path fT
      refine GE.state (fun _ hs => hs.empty intE none) ?_
      refine GE.ret_tmp (L' := row intE none 0 [] :: L) (.inl rfl) rfl rfl Wsb ?_
      rw [usersL, onlyL_out (by simpa using h2)]
      exact ⟨none, 0, rfl, rfl⟩
    · -- fF
      have hV := validG_iff.1 h1
      have hn := inB_iff.1 h2
      obtain ⟨k, rfl⟩ : ∃ k : Nat, n = k := ⟨n.toNat, by omega⟩
      refine GC.skip ?_
      refine GE.seq ?_
      refine GC.seq ?_
      refine GC.region ?_
      refine GL.v Wlba ?_
      refine GL.v Wmv ?_
      refine GL.call rfl rfl (users_spec w0 _ A c ms (by first | assumption | exact RdG.imp (by assumption) Wim | exact RdG.of_pick Wpk Wpk) hV k (by omega)) ?_
      rintro _ _ ⟨B, d, rfl, rfl⟩
      refine GL.v Wag ?_
      refine GL.nil ?_
      refine GE.seq ?_
      refine GC.ret ?_
      -- returns, path fF
      refine GE.ret_tmp (L' := row intE B d (whichL ms.length (usesB (gr ms) k)) :: L) (.inl rfl) rfl rfl Wsb ?_
      rw [usersL, onlyL_yes h1 (by simpa using h2), gr_length]
      exact ⟨_, _, rfl, rfl⟩
theorem sreach_spec (w0 : World) (L : List Asn) (A : Option Addr) (c : Nat) (ms : List NdM) (hG : RdG w0 L A c ms) (hV : ValidG (gr ms)) (B : Option Addr) (d : Nat) (fs : List Int) (hX : Rd w0 L intE B d fs) (hfl : fs.length ≤ 1100000) (h0 : ∀ o ∈ fs, 0 ≤ o) :
    Tr Try.prog 60 #[.agg #[.slice A ms.length c], .slice B fs.length d] w0 L (fun v L' => ∃ D e, v = .slice D (whichL ms.length (fromB (gr ms) fs)).length e ∧ L' = row intE D e (whichL ms.length (fromB (gr ms) fs)) :: L) := by
  have hN := hG.nodes
  have hl10 : ms.length ≤ 10 := by have := hV.1; simpa using this
  refine Tr.enter (args := [.agg #[.slice A ms.length c], .slice B fs.length d]) Try.func60 Try.ntmps60 rfl rfl ?_
  refine GC.seq ?_
  refine GC.region ?_
  refine GL.box_agg rfl rfl ?_; intro g2
  refine GL.v Wag ?_
  refine GL.nil ?_
  refine GE.seq ?_
  refine GC.seq ?_
  refine GC.region ?_
  refine GL.buildSlice rfl (by first | exact bsInt0 | exact bsInt1 _ | exact bsInt2 _ _ | exact bsInt3 _ _ _ | exact bsInt4 _ _ _ _ | exact bsInt5 _ _ _ _ _ | exact bsInt6 _ _ _ _ _ _ | exact bsInt7 _ _ _ _ _ _ _ | exact bsInt8 _ _ _ _ _ _ _ _ | exact bsInt9 _ _ _ _ _ _ _ _ _ | exact bsInt10 _ _ _ _ _ _ _ _ _ _ | exact bsPart0 | exact bsPart1 ⟨_, _, _, _, _⟩ | exact bsNode1 ⟨_, _, _, _⟩ | exact bsPtr3 _ _ _) rfl (by decide) rfl ?_; intro g10
  refine GL.v Wag ?_
  refine GL.nil ?_
  refine GE.seq ?_
  refine GC.seq ?_
  refine GC.seq ?_
  refine GC.region ?_
  refine GL.v Wag ?_
  refine GL.nil ?_
  refine GE.seq ?_
  refine GC.block ?_
  -- loop 1: carried slots [5, 6]
  refine GC.loopK (α := Nat × Option Addr × Nat) (fun x => x.1 ≤ ms.length) (fun x => [(5, .slice x.2.1 (whichL x.1 (fromB (gr ms) fs)).length x.2.2), (6, .int .i64 x.1)]) [(1, _), (2, _)] (fun x => row intE x.2.1 x.2.2 (whichL x.1 (fromB (gr ms) fs)) :: blk g2 25 [.slice A ms.length c] :: L) (fun x => ms.length - x.1) (0, some ⟨g10, 0, none⟩, 0) Wkp Wsb (Nat.zero_le _) ?_
  rintro ⟨i, D, e⟩ hi
  dsimp only at hi ⊢
  have hwl := whichL_length i (fromB (gr ms) fs)
  refine GC.seq ?_
  refine GC.seq ?_
  refine GC.region ?_
  refine GL.v Wmv ?_
  refine GL.v Wfa ?_
  refine GL.v Wlb ?_
  refine GL.v Wln ?_
  refine GL.v Wls ?_
  refine GL.nil ?_
  refine GE.seq ?_
  refine GC.ifs (fun h1 => ?_) (fun h1 => ?_)
  · -- T
    have hil : i < ms.length := by omega
    have hP := hG.parts i hil
    have hig : i < (gr ms).length := by simpa using hil
    have hnd := validG_node hV hig
    rw [gr_get] at hnd
    have hp12 : ms[i].parts.length ≤ 12 := hnd.1
    have hma : mayAt (gr ms) i = mayL ms[i].parts := by rw [mayAt_eq hig, gr_get]; rfl
    have hml := mayL_length ms[i].parts
    refine GC.skip ?_
    refine GE.seq ?_
    refine GC.seq ?_
    refine GC.block ?_
    refine GC.seq ?_
    refine GC.region ?_
    refine GL.v Wmv ?_
    refine GL.v Wmv ?_
    refine GL.call rfl rfl (placeIn_spec _ _ _ _ _ Wrd Wom _) ?_
    rintro _ _ ⟨k20, rfl, hk20, e20⟩
    rw [e20]; clear e20
    refine GL.v Wgq ?_
    refine GL.v Wag ?_
    refine GL.nil ?_
    refine GE.seq ?_
    refine GC.seq ?_
    refine GC.region ?_
    refine GL.v Wfa ?_
    refine GL.v Wlb ?_
    refine GL.v Wmv ?_
    refine GL.v Wix ?_
    refine GL.v Wfa ?_
    refine GL.v Wlef1 ?_
    refine GL.call rfl rfl (smayRead_spec _ _ _ _ _ Wrd Wom) ?_
    rintro _ _ ⟨B28, d28, rfl, rfl⟩
    refine GL.v Wag ?_
    refine GL.nil ?_
    refine GE.seq ?_
    refine GC.seq ?_
    refine GC.seq ?_
    refine GC.region ?_
    refine GL.v Wag ?_
    refine GL.nil ?_
    refine GE.seq ?_
    refine GC.block ?_
    -- loop 2: carried slots [7, 9]
    have hc0 : decide (0 ≤ k20) = (fs.contains (i : Int) || ((mayL ms[i].parts).take 0).any fun k => fromB (gr ms) fs k.toNat) := by
      cases hc : fs.contains (i : Int) with
      | false => rw [decide_eq_false (by have := hk20.2 hc; omega)]; rfl
      | true => rw [decide_eq_true (by have h' : ¬ (k20 < 0) := fun h => (by rw [hk20.1 h] at hc; cases hc); omega)]; rfl
    refine GC.loopK (α := Nat) (fun t => t ≤ (mayL ms[i].parts).length) (fun t => [(7, .bool (fs.contains (i : Int) || ((mayL ms[i].parts).take t).any fun k => fromB (gr ms) fs k.toNat)), (9, .int .i64 t)]) [(1, _), (2, _), (5, _), (6, _), (8, _)] (fun t => row intE B28 d28 (mayL ms[i].parts) :: row intE D e (whichL i (fromB (gr ms) fs)) :: blk g2 25 [.slice A ms.length c] :: L) (fun t => (mayL ms[i].parts).length - t) 0 (by rw [← hc0]; exact Wkp) Wsb (Nat.zero_le _) ?_
    rintro t ht
    refine GC.seq ?_
    refine GC.seq ?_
    refine GC.region ?_
    refine GL.v Wmv ?_
    refine GL.v Wmv ?_
    refine GL.v Wln ?_
    refine GL.v Wls ?_
    refine GL.nil ?_
    refine GE.seq ?_
    refine GC.ifs (fun h2 => ?_) (fun h2 => ?_)
    · -- TT
      have htl : t < (mayL ms[i].parts).length := by omega
      have hk := mayAt_lt hV (i := i) (by rw [hma]; exact List.getElem_mem htl)
      have hmx := any_take_succ (p := fun k => fromB (gr ms) fs k.toNat) htl
      have hwa := whichL_at (p := fromB (gr ms) fs) hk.1 hk.2.1
      refine GC.skip ?_
      refine GE.seq ?_
      refine GC.seq ?_
      refine GC.block ?_
      refine GC.region ?_
      refine GL.v Wmv ?_
      refine GL.v Wmv ?_
      refine GL.gs (fun h3 => ?_) (fun h3 => ?_)
      · -- TTt
        refine GL.unwant rfl rfl rfl rfl ?_
        refine GL.unwant rfl rfl rfl rfl ?_
        refine GL.unwant rfl rfl rfl rfl ?_
        refine GL.unwant rfl rfl rfl rfl ?_
        refine GL.unwant rfl rfl rfl rfl ?_
        refine GL.unwant rfl rfl rfl rfl ?_
        refine GL.unwant rfl rfl rfl rfl ?_
        refine GL.v Wpt ?_
        refine GL.v Wag ?_
        refine GL.nil ?_
        refine GE.block ?_
        refine GE.seq ?_
        refine GC.region ?_
        refine GL.v Wmv ?_
        refine GL.v Wad ?_
        refine GL.v Wag ?_
        refine GL.nil ?_
        -- round of loop 2, path TTt
        have he : (fs.contains (i : Int) || ((mayL ms[i].parts).take (t + 1)).any fun k => fromB (gr ms) fs k.toNat) = true := by rw [hmx, ← Bool.or_assoc, h3]; rfl
        refine GE.round (t + 1) (by omega) (by omega) (by rw [he]; exact Wkp) Wsb
      · -- TTf
        refine GL.want rfl rfl ?_
        refine GL.v Wmv ?_
        refine GL.want rfl rfl ?_
        refine GL.v Wmv ?_
        refine GL.want rfl rfl ?_
        refine GL.v Wmv ?_
        refine GL.want rfl rfl ?_
        refine GL.v Wix ?_
        refine GL.want rfl rfl ?_
        refine GL.v Wle ?_
        refine GL.want rfl rfl ?_
        refine GL.call rfl rfl (placeIn_spec _ _ _ _ _ Wrd Wom _) ?_
        rintro _ _ ⟨k42, rfl, hk42, e42⟩
        rw [e42]; clear e42
        refine GL.want rfl rfl ?_
        refine GL.v Wgq ?_
        refine GL.v Wpf ?_
        refine GL.v Wag ?_
        refine GL.nil ?_
        refine GE.block ?_
        refine GE.seq ?_
        refine GC.region ?_
        refine GL.v Wmv ?_
        refine GL.v Wad ?_
        refine GL.v Wag ?_
        refine GL.nil ?_
        -- round of loop 2, path TTf
        have he : (fs.contains (i : Int) || ((mayL ms[i].parts).take (t + 1)).any fun k => fromB (gr ms) fs k.toNat) = decide (0 ≤ k42) := by
          rw [hmx, ← Bool.or_assoc, h3, Bool.false_or, ← hwa]
          cases hc : (whichL i (fromB (gr ms) fs)).contains (mayL ms[i].parts)[t] with
          | false => rw [decide_eq_false (by have := hk42.2 hc; omega)]
          | true => rw [decide_eq_true (by have h' : ¬ (k42 < 0) := fun h => (by rw [hk42.1 h] at hc; cases hc); omega)]
        refine GE.round (t + 1) (by omega) (by omega) (by rw [he]; exact Wkp) Wsb
    · -- TF
      have hte : t = (mayL ms[i].parts).length := by omega
      subst hte
      rw [List.take_length, ← hma, ← from_eq hV h0]
      refine GC.exit ?_
      refine GE.seq_exit ?_
      refine GE.loop_exit ?_
      refine GE.block_exit ?_
      refine GE.seq ?_
      refine GC.seq ?_
      refine GC.region ?_
      refine GL.v Wmv ?_
      refine GL.nil ?_
      refine GE.seq ?_
      refine GC.ifs (fun h3 => ?_) (fun h3 => ?_)
      · -- TFT
        refine GC.region ?_
        refine GL.v Wmv ?_
        refine GL.v Wmv ?_
        refine GL.buildSlice rfl (by first | exact bsInt0 | exact bsInt1 _ | exact bsInt2 _ _ | exact bsInt3 _ _ _ | exact bsInt4 _ _ _ _ | exact bsInt5 _ _ _ _ _ | exact bsInt6 _ _ _ _ _ _ | exact bsInt7 _ _ _ _ _ _ _ | exact bsInt8 _ _ _ _ _ _ _ _ | exact bsInt9 _ _ _ _ _ _ _ _ _ | exact bsInt10 _ _ _ _ _ _ _ _ _ _ | exact bsPart0 | exact bsPart1 ⟨_, _, _, _, _⟩ | exact bsNode1 ⟨_, _, _, _⟩ | exact bsPtr3 _ _ _) rfl (by decide) rfl ?_; intro g48
        first | (refine GL.append rfl rfl Wpk (by assumption) Wim (by first | rfl | (simp; done) | (simp; omega)) (by first | rfl | (simp; done) | (simp; omega)) (by first | omega | (simp; omega)) (by first | omega | (simp; omega)) rfl ?_; intro A49 c49) | (refine GL.append rfl rfl Wpk (Rd.of_pick Wpk) Imp.refl (by first | rfl | (simp; done) | (simp; omega)) (by first | rfl | (simp; done) | (simp; omega)) (by first | omega | (simp; omega)) (by first | omega | (simp; omega)) rfl ?_; intro A49 c49)
        refine GL.v Wag ?_
        refine GL.nil ?_
        refine GE.block ?_
        refine GE.seq ?_
        refine GC.region ?_
        refine GL.v Wmv ?_
        refine GL.v Wad ?_
        refine GL.v Wag ?_
        refine GL.nil ?_
        -- round of loop 1, path TFT
        rw [whichL_yes h3]
        refine GE.round (i + 1, _, _) (by dsimp only; omega) (by dsimp only; omega) Wkp Wsb
      · -- TFF
        refine GC.skip ?_
        refine GE.block ?_
        refine GE.seq ?_
        refine GC.region ?_
        refine GL.v Wmv ?_
        refine GL.v Wad ?_
        refine GL.v Wag ?_
        refine GL.nil ?_
        -- round of loop 1, path TFF
        rw [whichL_no (n := i) h3]
        refine GE.round (i + 1, D, e) (by dsimp only; omega) (by dsimp only; omega) Wkp Wsb
  · -- F
    have hie : i = ms.length := by omega
    subst hie
    refine GC.exit ?_
    refine GE.seq_exit ?_
    refine GE.loop_exit ?_
    refine GE.block_exit ?_
    refine GE.seq ?_
    refine GC.seq ?_
    refine GC.region ?_
    refine GL.v Wmv ?_
    refine GL.v Wag ?_
    refine GL.nil ?_
    refine GE.seq ?_
    refine GC.ret ?_
    -- returns, path F
    refine GE.ret_tmp (L' := row intE D e (whichL ms.length (fromB (gr ms) fs)) :: L) (.inl rfl) rfl rfl Wsb ?_
    exact ⟨_, _, rfl, rfl⟩
theorem sReachOf_spec (w0 : World) (L : List Asn) (A : Option Addr) (c : Nat) (ms : List NdM) (hG : RdG w0 L A c ms) (hS : SizeG ms) (n : Int) :
    Tr Try.prog 31 #[.agg #[.slice A ms.length c], .int .i64 n] w0 L (fun v L' => ∃ B d, v = .slice B (reachOfL (gr ms) n).length d ∧ L' = row intE B d (reachOfL (gr ms) n) :: L) := by
  have hN := hG.nodes
  have hSl := hS.1
  refine Tr.enter (args := [.agg #[.slice A ms.length c], .int .i64 n]) Try.func31 Try.ntmps31 rfl rfl ?_
  refine GC.seq ?_
  refine GC.region ?_
  refine GL.box_agg rfl rfl ?_; intro g2
  refine GL.v Wag ?_
  refine GL.nil ?_
  refine GE.seq ?_
  refine GC.seq ?_
  refine GC.seq ?_
  refine GC.region ?_
  refine GL.v Wlba ?_
  refine GL.callF rfl rfl (svalidGraph_spec _ _ _ _ _ (by first | assumption | exact RdG.imp (by assumption) Wim | exact RdG.of_pick Wpk Wpk) (by assumption)) ?_
  refine GL.v Wnt ?_
  refine GL.v Wmv ?_
  refine GL.gs (fun h1 => ?_) (fun h1 => ?_)
  · -- t
    refine GL.unwant rfl rfl rfl rfl ?_
    refine GL.unwant rfl rfl rfl rfl ?_
    refine GL.unwant rfl rfl rfl rfl ?_
    refine GL.unwant rfl rfl rfl rfl ?_
    refine GL.unwant rfl rfl rfl rfl ?_
    refine GL.unwant rfl rfl rfl rfl ?_
    refine GL.unwant rfl rfl rfl rfl ?_
    refine GL.v Wpt ?_
    refine GL.nil ?_
    refine GE.seq ?_
    refine GC.cond_true rfl ?_
    refine GC.seq ?_
    refine GC.region ?_
    refine GL.v Wag ?_
    refine GL.nil ?_
    refine GE.seq ?_
    refine GC.ret ?_
    refine GE.seq_ret ?_
    -- returns, path t
    refine GE.state (fun _ hs => hs.empty intE none) ?_
    refine GE.ret_tmp (L' := row intE none 0 [] :: L) (.inl rfl) rfl rfl Wsb ?_
    rw [reachOfL, onlyL_no h1]
    exact ⟨none, 0, rfl, rfl⟩
  · -- f
    refine GL.want rfl rfl ?_
    refine GL.v Wmv ?_
    refine GL.want rfl rfl ?_
    refine GL.v Wfa ?_
    refine GL.want rfl rfl ?_
    refine GL.v Wlb ?_
    refine GL.want rfl rfl ?_
    refine GL.v Wln ?_
    refine GL.want rfl rfl ?_
    refine GL.v Wsu ?_
    refine GL.want rfl rfl ?_
    refine GL.callF rfl rfl (inRange_spec _ _ _ _ _) ?_
    refine GL.want rfl rfl ?_
    refine GL.v Wnt ?_
    refine GL.v Wpf ?_
    refine GL.nil ?_
    refine GE.seq ?_
    refine GC.ifs (fun h2 => ?_) (fun h2 => ?_)
    · -- fT
      refine GC.seq ?_
      refine GC.region ?_
      refine GL.v Wag ?_
      refine GL.nil ?_
      refine GE.seq ?_
      refine GC.ret ?_
      refine GE.seq_ret ?_
      -- returns, path fT
      refine GE.state (fun _ hs => hs.empty intE none) ?_
      refine GE.ret_tmp (L' := row intE none 0 [] :: L) (.inl rfl) rfl rfl Wsb ?_
      rw [reachOfL, onlyL_out (by simpa using h2)]
      exact ⟨none, 0, rfl, rfl⟩
    · -- fF
      have hV := validG_iff.1 h1
      have hn := inB_iff.1 h2
      refine GC.skip ?_
      refine GE.seq ?_
      refine GC.seq ?_
      refine GC.region ?_
      refine GL.v Wlba ?_
      refine GL.v Wmv ?_
      refine GL.buildSlice rfl (by first | exact bsInt0 | exact bsInt1 _ | exact bsInt2 _ _ | exact bsInt3 _ _ _ | exact bsInt4 _ _ _ _ | exact bsInt5 _ _ _ _ _ | exact bsInt6 _ _ _ _ _ _ | exact bsInt7 _ _ _ _ _ _ _ | exact bsInt8 _ _ _ _ _ _ _ _ | exact bsInt9 _ _ _ _ _ _ _ _ _ | exact bsInt10 _ _ _ _ _ _ _ _ _ _ | exact bsPart0 | exact bsPart1 ⟨_, _, _, _, _⟩ | exact bsNode1 ⟨_, _, _, _⟩ | exact bsPtr3 _ _ _) rfl (by decide) rfl ?_; intro g19
      refine GL.call rfl rfl (sreach_spec w0 _ A c ms (by first | assumption | exact RdG.imp (by assumption) Wim | exact RdG.of_pick Wpk Wpk) hV _ _ [n] Wrd (by simp) (fun o ho => by rw [List.mem_singleton.1 ho]; exact hn.1)) ?_
      rintro _ _ ⟨B, d, rfl, rfl⟩
      rw [show fromB (gr ms) [n] = reachB (gr ms) n.toNat from funext (from_one _ _)]
      refine GL.v Wag ?_
      refine GL.nil ?_
      refine GE.seq ?_
      refine GC.ret ?_
      -- returns, path fF
      refine GE.ret_tmp (L' := row intE B d (whichL ms.length (reachB (gr ms) n.toNat)) :: L) (.inl rfl) rfl rfl Wsb ?_
      rw [reachOfL, onlyL_yes h1 (by simpa using h2), gr_length]
      exact ⟨_, _, rfl, rfl⟩
theorem effects_spec (w0 : World) (L : List Asn) (A : Option Addr) (c : Nat) (ms : List NdM) (hG : RdG w0 L A c ms) (hl : ms.length ≤ 1100000) :
    Tr Try.prog 62 #[.agg #[.slice A ms.length c]] w0 L (fun v L' => ∃ B d, v = .slice B (effL (gr ms)).length d ∧ L' = row intE B d (effL (gr ms)) :: L) := by
  have hN := hG.nodes
  refine Tr.enter (args := [.agg #[.slice A ms.length c]]) Try.func62 Try.ntmps62 rfl rfl ?_
  refine GC.seq ?_
  refine GC.region ?_
  refine GL.box_agg rfl rfl ?_; intro g1
  refine GL.v Wag ?_
  refine GL.nil ?_
  refine GE.seq ?_
  refine GC.seq ?_
  refine GC.region ?_
  refine GL.buildSlice rfl (by first | exact bsInt0 | exact bsInt1 _ | exact bsInt2 _ _ | exact bsInt3 _ _ _ | exact bsInt4 _ _ _ _ | exact bsInt5 _ _ _ _ _ | exact bsInt6 _ _ _ _ _ _ | exact bsInt7 _ _ _ _ _ _ _ | exact bsInt8 _ _ _ _ _ _ _ _ | exact bsInt9 _ _ _ _ _ _ _ _ _ | exact bsInt10 _ _ _ _ _ _ _ _ _ _ | exact bsPart0 | exact bsPart1 ⟨_, _, _, _, _⟩ | exact bsNode1 ⟨_, _, _, _⟩ | exact bsPtr3 _ _ _) rfl (by decide) rfl ?_; intro g5
  refine GL.v Wag ?_
  refine GL.nil ?_
  refine GE.seq ?_
  refine GC.seq ?_
  refine GC.seq ?_
  refine GC.region ?_
  refine GL.v Wag ?_
  refine GL.nil ?_
  refine GE.seq ?_
  refine GC.block ?_
  -- loop 1: carried slots [3, 4]
  refine GC.loopK (α := Nat × Option Addr × Nat) (fun x => x.1 ≤ ms.length) (fun x => [(3, .slice x.2.1 (whichL x.1 (effB (gr ms))).length x.2.2), (4, .int .i64 x.1)]) [(1, _)] (fun x => row intE x.2.1 x.2.2 (whichL x.1 (effB (gr ms))) :: blk g1 25 [.slice A ms.length c] :: L) (fun x => ms.length - x.1) (0, some ⟨g5, 0, none⟩, 0) Wkp Wsb (Nat.zero_le _) ?_
  rintro ⟨i, B, d⟩ hi
  dsimp only at hi ⊢
  have hwl := whichL_length i (effB (gr ms))
  refine GC.seq ?_
  refine GC.seq ?_
  refine GC.region ?_
  refine GL.v Wmv ?_
  refine GL.v Wfa ?_
  refine GL.v Wlb ?_
  refine GL.v Wln ?_
  refine GL.v Wls ?_
  refine GL.nil ?_
  refine GE.seq ?_
  refine GC.ifs (fun h1 => ?_) (fun h1 => ?_)
  · -- T
    have hil : i < ms.length := by omega
    have hef : effB (gr ms) i = decide (ms[i].kind = 2) := by rw [effB, kindAt_gr (k := i) (by omega)]; rfl
    refine GC.skip ?_
    refine GE.seq ?_
    refine GC.seq ?_
    refine GC.block ?_
    refine GC.seq ?_
    refine GC.region ?_
    refine GL.v Wfa ?_
    refine GL.v Wlb ?_
    refine GL.v Wmv ?_
    refine GL.v Wix ?_
    refine GL.v Wfa ?_
    refine GL.v Wlef ?_
    refine GL.v Weq ?_
    refine GL.nil ?_
    refine GE.seq ?_
    refine GC.ifs (fun h2 => ?_) (fun h2 => ?_)
    · -- TT
      refine GC.region ?_
      refine GL.v Wmv ?_
      refine GL.v Wmv ?_
      refine GL.buildSlice rfl (by first | exact bsInt0 | exact bsInt1 _ | exact bsInt2 _ _ | exact bsInt3 _ _ _ | exact bsInt4 _ _ _ _ | exact bsInt5 _ _ _ _ _ | exact bsInt6 _ _ _ _ _ _ | exact bsInt7 _ _ _ _ _ _ _ | exact bsInt8 _ _ _ _ _ _ _ _ | exact bsInt9 _ _ _ _ _ _ _ _ _ | exact bsInt10 _ _ _ _ _ _ _ _ _ _ | exact bsPart0 | exact bsPart1 ⟨_, _, _, _, _⟩ | exact bsNode1 ⟨_, _, _, _⟩ | exact bsPtr3 _ _ _) rfl (by decide) rfl ?_; intro g22
      first | (refine GL.append rfl rfl Wpk (by assumption) Wim (by first | rfl | (simp; done) | (simp; omega)) (by first | rfl | (simp; done) | (simp; omega)) (by first | omega | (simp; omega)) (by first | omega | (simp; omega)) rfl ?_; intro A23 c23) | (refine GL.append rfl rfl Wpk (Rd.of_pick Wpk) Imp.refl (by first | rfl | (simp; done) | (simp; omega)) (by first | rfl | (simp; done) | (simp; omega)) (by first | omega | (simp; omega)) (by first | omega | (simp; omega)) rfl ?_; intro A23 c23)
      refine GL.v Wag ?_
      refine GL.nil ?_
      refine GE.block ?_
      refine GE.seq ?_
      refine GC.region ?_
      refine GL.v Wmv ?_
      refine GL.v Wad ?_
      refine GL.v Wag ?_
      refine GL.nil ?_
      -- round of loop 1, path TT
      rw [whichL_yes (by rw [hef]; exact decide_eq_true h2)]
      refine GE.round (i + 1, _, _) (by dsimp only; omega) (by dsimp only; omega) Wkp Wsb
    · -- TF
      refine GC.skip ?_
      refine GE.block ?_
      refine GE.seq ?_
      refine GC.region ?_
      refine GL.v Wmv ?_
      refine GL.v Wad ?_
      refine GL.v Wag ?_
      refine GL.nil ?_
      -- round of loop 1, path TF
      rw [whichL_no (n := i) (p := effB (gr ms)) (by rw [hef]; exact decide_eq_false h2)]
      refine GE.round (i + 1, B, d) (by dsimp only; omega) (by dsimp only; omega) Wkp Wsb
  · -- F
    have hie : i = ms.length := by omega
    subst hie
    rw [show whichL ms.length (effB (gr ms)) = effL (gr ms) by rw [effL, gr_length]]
    refine GC.exit ?_
    refine GE.seq_exit ?_
    refine GE.loop_exit ?_
    refine GE.block_exit ?_
    refine GE.seq ?_
    refine GC.seq ?_
    refine GC.region ?_
    refine GL.v Wmv ?_
    refine GL.v Wag ?_
    refine GL.nil ?_
    refine GE.seq ?_
    refine GC.ret ?_
    -- returns, path F
    refine GE.ret_tmp (L' := row intE B d (effL (gr ms)) :: L) (.inl rfl) rfl rfl Wsb ?_
    exact ⟨_, _, rfl, rfl⟩
theorem need_spec (w0 : World) (L : List Asn) (A : Option Addr) (c : Nat) (ms : List NdM) (hG : RdG w0 L A c ms) (hV : ValidG (gr ms)) (B : Option Addr) (d : Nat) (fs : List Int) (hX : Rd w0 L intE B d fs) (hfl : fs.length ≤ 1100000) (h0 : ∀ o ∈ fs, 0 ≤ o) :
    Tr Try.prog 58 #[.agg #[.slice A ms.length c], .slice B fs.length d] w0 L (fun v L' => ∃ D e, v = .slice D (whichL ms.length (needB (gr ms) fs)).length e ∧ L' = row intE D e (whichL ms.length (needB (gr ms) fs)) :: L) := by
  have hN := hG.nodes
  have hl10 : ms.length ≤ 10 := by have := hV.1; simpa using this
  refine Tr.enter (args := [.agg #[.slice A ms.length c], .slice B fs.length d]) Try.func58 Try.ntmps58 rfl rfl ?_
  refine GC.seq ?_
  refine GC.region ?_
  refine GL.box_agg rfl rfl ?_; intro g2
  refine GL.v Wag ?_
  refine GL.nil ?_
  refine GE.seq ?_
  refine GC.seq ?_
  refine GC.region ?_
  refine GL.v Wfa ?_
  refine GL.v Wlb ?_
  refine GL.v Wln ?_
  refine GL.make rfl rfl Wik Wik (by omega) (by omega) rfl ?_; intro g14
  refine GL.v Wag ?_
  refine GL.nil ?_
  refine GE.seq ?_
  refine GC.seq ?_
  refine GC.seq ?_
  refine GC.region ?_
  refine GL.v Wfa ?_
  refine GL.v Wlb ?_
  refine GL.v Wln ?_
  refine GL.v Wsu ?_
  refine GL.v Wag ?_
  refine GL.nil ?_
  refine GE.seq ?_
  refine GC.block ?_
  -- loop 1: carried slots [6]
  refine GC.loopK (α := Nat) (fun i => i ≤ ms.length) (fun i => [(6, .int .i64 ((i : Int) - 1))]) [(1, _), (2, _), (5, _)] (fun i => row boolE (some ⟨g14, 0, none⟩) ms.length (metL (gr ms) fs i) :: blk g2 25 [.slice A ms.length c] :: L) (fun i => i) ms.length Wkp (by rw [← gr_length ms, ← metL_start]; exact Wsb) (Nat.le_refl _) ?_
  rintro i hi
  have hml0 := metL_length (gr ms) fs i
  rw [gr_length] at hml0
  refine GC.seq ?_
  refine GC.seq ?_
  refine GC.region ?_
  refine GL.v Wmv ?_
  refine GL.v Wgq ?_
  refine GL.nil ?_
  refine GE.seq ?_
  refine GC.ifs (fun h1 => ?_) (fun h1 => ?_)
  · -- T
    obtain ⟨i, rfl⟩ : ∃ j, i = j + 1 := ⟨i - 1, by omega⟩
    have hil : i < ms.length := by omega
    rw [show (((i + 1 : Nat) : Int) - 1) = (i : Int) by omega]
    have hP := hG.parts i hil
    have hig : i < (gr ms).length := by simpa using hil
    have hnd := validG_node hV hig
    rw [gr_get] at hnd
    have hp12 : ms[i].parts.length ≤ 12 := hnd.1
    have hma : mayAt (gr ms) i = mayL ms[i].parts := by rw [mayAt_eq hig, gr_get]; rfl
    have hml := mayL_length ms[i].parts
    have hm0 := midL_zero hV h0 (i := i)
    refine GC.skip ?_
    refine GE.seq ?_
    refine GC.seq ?_
    refine GC.block ?_
    refine GC.seq ?_
    refine GC.region ?_
    refine GL.v Wmv ?_
    refine GL.v Wmv ?_
    refine GL.v Wmv ?_
    refine GL.v Wmv ?_
    refine GL.v Wix ?_
    refine GL.v Wle ?_
    refine GL.v Wmv ?_
    refine GL.gs (fun h2 => ?_) (fun h2 => ?_)
    · -- Tt
      rw [metL_get] at h2
      rw [h2, Bool.true_or] at hm0
      refine GL.unwant rfl rfl rfl rfl ?_
      refine GL.unwant rfl rfl rfl rfl ?_
      refine GL.unwant rfl rfl rfl rfl ?_
      refine GL.unwant rfl rfl rfl rfl ?_
      refine GL.v Wpt ?_
      refine GL.v Wix ?_
      refine GL.store_el rfl rfl Wpk rfl rfl rfl (by first | omega | (simp; done) | (simp; omega)) ?_
      refine GL.nil ?_
      refine GE.seq ?_
      refine GC.seq ?_
      refine GC.region ?_
      refine GL.v Wfa ?_
      refine GL.v Wlb ?_
      refine GL.v Wmv ?_
      refine GL.v Wix ?_
      refine GL.v Wfa ?_
      refine GL.v Wlef1 ?_
      refine GL.call rfl rfl (smayRead_spec _ _ _ _ _ Wrd Wom) ?_
      rintro _ _ ⟨B42, d42, rfl, rfl⟩
      refine GL.v Wag ?_
      refine GL.nil ?_
      refine GE.seq ?_
      refine GC.seq ?_
      refine GC.region ?_
      refine GL.v Wag ?_
      refine GL.nil ?_
      refine GE.seq ?_
      refine GC.block ?_
      -- loop 2: carried slots [8]
      first
        | rw [hm0]
        | rw [show decide (0 ≤ k32) = fs.contains (i : Int) by
            cases hc : fs.contains (i : Int) with
            | false => rw [decide_eq_false (by have := hk32.2 hc; omega)]
            | true => rw [decide_eq_true (by have h' : ¬ (k32 < 0) := fun h => (by rw [hk32.1 h] at hc; cases hc); omega)], hm0]
      refine GC.loopK (α := Nat) (fun t => t ≤ (mayL ms[i].parts).length) (fun t => [(8, .int .i64 t)]) [(1, _), (2, _), (5, _), (6, _), (7, _)] (fun t => row intE B42 d42 (mayL ms[i].parts) :: row boolE (some ⟨g14, 0, none⟩) ms.length (midL (gr ms) fs i t) :: blk g2 25 [.slice A ms.length c] :: L) (fun t => (mayL ms[i].parts).length - t) 0 Wkp Wsb (Nat.zero_le _) ?_
      rintro t ht
      have hdl := midL_length (gr ms) fs i t
      rw [gr_length] at hdl
      refine GC.seq ?_
      refine GC.seq ?_
      refine GC.region ?_
      refine GL.v Wmv ?_
      refine GL.v Wmv ?_
      refine GL.v Wln ?_
      refine GL.v Wls ?_
      refine GL.v Wmv ?_
      refine GL.gs (fun h3 => ?_) (fun h3 => ?_)
      · -- Ttt
        refine GL.want rfl rfl ?_
        refine GL.v Wmv ?_
        refine GL.want rfl rfl ?_
        refine GL.v Wmv ?_
        refine GL.want rfl rfl ?_
        refine GL.v Wix ?_
        refine GL.want rfl rfl ?_
        refine GL.v Wle ?_
        refine GL.v Wpt ?_
        refine GL.nil ?_
        refine GE.seq ?_
        refine GC.ifs (fun h4 => ?_) (fun h4 => ?_)
        · -- TttT
          have hk := mayAt_lt hV (i := i) (by rw [hma]; exact List.getElem_mem (show t < (mayL ms[i].parts).length by omega))
          refine GC.skip ?_
          refine GE.seq ?_
          refine GC.seq ?_
          refine GC.block ?_
          refine GC.region ?_
          refine GL.v Wmv ?_
          refine GL.v Wmv ?_
          refine GL.v Wmv ?_
          refine GL.v Wix ?_
          refine GL.v Wle ?_
          refine GL.v Wix ?_
          refine GL.store_el rfl rfl Wpk rfl rfl rfl (by first | omega | (simp; done) | (simp; omega)) ?_
          refine GL.nil ?_
          refine GE.block ?_
          refine GE.seq ?_
          refine GC.region ?_
          refine GL.v Wmv ?_
          refine GL.v Wad ?_
          refine GL.v Wag ?_
          refine GL.nil ?_
          -- round of loop 2, path TttT
          have htl : t < (mayL ms[i].parts).length := by omega
          rw [midL_self] at h4
          have hst := midL_step hV (of := fs) (i := i) (t := t) (by rw [hma]; exact htl) h4
          simp only [hma] at hst
          rw [hst]
          refine GE.round (t + 1) (by omega) (by omega) Wkp Wsb
        · -- TttF
          refine GC.exit ?_
          refine GE.seq_exit ?_
          refine GE.loop_exit ?_
          refine GE.block_exit ?_
          refine GE.block ?_
          refine GE.seq ?_
          refine GC.region ?_
          refine GL.v Wmv ?_
          refine GL.v Wsu ?_
          refine GL.v Wag ?_
          refine GL.nil ?_
          -- round of loop 1, path TttF
          rw [midL_self] at h4
          refine GE.round i (by omega) (by omega) Wkp (by rw [← midL_full hV (t := t) (.inr h4)]; exact Wsb)
      · -- Ttf
        refine GL.unwant rfl rfl rfl rfl ?_
        refine GL.unwant rfl rfl rfl rfl ?_
        refine GL.unwant rfl rfl rfl rfl ?_
        refine GL.unwant rfl rfl rfl rfl ?_
        refine GL.v Wpf ?_
        refine GL.nil ?_
        refine GE.seq ?_
        refine GC.cond_false rfl ?_
        refine GC.exit ?_
        refine GE.seq_exit ?_
        refine GE.loop_exit ?_
        refine GE.block_exit ?_
        refine GE.block ?_
        refine GE.seq ?_
        refine GC.region ?_
        refine GL.v Wmv ?_
        refine GL.v Wsu ?_
        refine GL.v Wag ?_
        refine GL.nil ?_
        -- round of loop 1, path Ttf
        refine GE.round i (by omega) (by omega) Wkp (by rw [← midL_full hV (t := t) (.inl (by rw [hma]; omega))]; exact Wsb)
    · -- Tf
      rw [metL_get] at h2
      rw [h2, Bool.false_or] at hm0
      refine GL.want rfl rfl ?_
      refine GL.v Wmv ?_
      refine GL.want rfl rfl ?_
      refine GL.v Wmv ?_
      refine GL.want rfl rfl ?_
      refine GL.call rfl rfl (placeIn_spec _ _ _ _ _ Wrd Wom _) ?_
      rintro _ _ ⟨k32, rfl, hk32, e32⟩
      rw [e32]; clear e32
      refine GL.want rfl rfl ?_
      refine GL.v Wgq ?_
      refine GL.v Wpf ?_
      refine GL.v Wix ?_
      refine GL.store_el rfl rfl Wpk rfl rfl rfl (by first | omega | (simp; done) | (simp; omega)) ?_
      refine GL.nil ?_
      refine GE.seq ?_
      refine GC.seq ?_
      refine GC.region ?_
      refine GL.v Wfa ?_
      refine GL.v Wlb ?_
      refine GL.v Wmv ?_
      refine GL.v Wix ?_
      refine GL.v Wfa ?_
      refine GL.v Wlef1 ?_
      refine GL.call rfl rfl (smayRead_spec _ _ _ _ _ Wrd Wom) ?_
      rintro _ _ ⟨B42, d42, rfl, rfl⟩
      refine GL.v Wag ?_
      refine GL.nil ?_
      refine GE.seq ?_
      refine GC.seq ?_
      refine GC.region ?_
      refine GL.v Wag ?_
      refine GL.nil ?_
      refine GE.seq ?_
      refine GC.block ?_
      -- loop 2: carried slots [8]
      first
        | rw [hm0]
        | rw [show decide (0 ≤ k32) = fs.contains (i : Int) by
            cases hc : fs.contains (i : Int) with
            | false => rw [decide_eq_false (by have := hk32.2 hc; omega)]
            | true => rw [decide_eq_true (by have h' : ¬ (k32 < 0) := fun h => (by rw [hk32.1 h] at hc; cases hc); omega)], hm0]
      refine GC.loopK (α := Nat) (fun t => t ≤ (mayL ms[i].parts).length) (fun t => [(8, .int .i64 t)]) [(1, _), (2, _), (5, _), (6, _), (7, _)] (fun t => row intE B42 d42 (mayL ms[i].parts) :: row boolE (some ⟨g14, 0, none⟩) ms.length (midL (gr ms) fs i t) :: blk g2 25 [.slice A ms.length c] :: L) (fun t => (mayL ms[i].parts).length - t) 0 Wkp Wsb (Nat.zero_le _) ?_
      rintro t ht
      have hdl := midL_length (gr ms) fs i t
      rw [gr_length] at hdl
      refine GC.seq ?_
      refine GC.seq ?_
      refine GC.region ?_
      refine GL.v Wmv ?_
      refine GL.v Wmv ?_
      refine GL.v Wln ?_
      refine GL.v Wls ?_
      refine GL.v Wmv ?_
      refine GL.gs (fun h3 => ?_) (fun h3 => ?_)
      · -- Tft
        refine GL.want rfl rfl ?_
        refine GL.v Wmv ?_
        refine GL.want rfl rfl ?_
        refine GL.v Wmv ?_
        refine GL.want rfl rfl ?_
        refine GL.v Wix ?_
        refine GL.want rfl rfl ?_
        refine GL.v Wle ?_
        refine GL.v Wpt ?_
        refine GL.nil ?_
        refine GE.seq ?_
        refine GC.ifs (fun h4 => ?_) (fun h4 => ?_)
        · -- TftT
          have hk := mayAt_lt hV (i := i) (by rw [hma]; exact List.getElem_mem (show t < (mayL ms[i].parts).length by omega))
          refine GC.skip ?_
          refine GE.seq ?_
          refine GC.seq ?_
          refine GC.block ?_
          refine GC.region ?_
          refine GL.v Wmv ?_
          refine GL.v Wmv ?_
          refine GL.v Wmv ?_
          refine GL.v Wix ?_
          refine GL.v Wle ?_
          refine GL.v Wix ?_
          refine GL.store_el rfl rfl Wpk rfl rfl rfl (by first | omega | (simp; done) | (simp; omega)) ?_
          refine GL.nil ?_
          refine GE.block ?_
          refine GE.seq ?_
          refine GC.region ?_
          refine GL.v Wmv ?_
          refine GL.v Wad ?_
          refine GL.v Wag ?_
          refine GL.nil ?_
          -- round of loop 2, path TftT
          have htl : t < (mayL ms[i].parts).length := by omega
          rw [midL_self] at h4
          have hst := midL_step hV (of := fs) (i := i) (t := t) (by rw [hma]; exact htl) h4
          simp only [hma] at hst
          rw [hst]
          refine GE.round (t + 1) (by omega) (by omega) Wkp Wsb
        · -- TftF
          refine GC.exit ?_
          refine GE.seq_exit ?_
          refine GE.loop_exit ?_
          refine GE.block_exit ?_
          refine GE.block ?_
          refine GE.seq ?_
          refine GC.region ?_
          refine GL.v Wmv ?_
          refine GL.v Wsu ?_
          refine GL.v Wag ?_
          refine GL.nil ?_
          -- round of loop 1, path TftF
          rw [midL_self] at h4
          refine GE.round i (by omega) (by omega) Wkp (by rw [← midL_full hV (t := t) (.inr h4)]; exact Wsb)
      · -- Tff
        refine GL.unwant rfl rfl rfl rfl ?_
        refine GL.unwant rfl rfl rfl rfl ?_
        refine GL.unwant rfl rfl rfl rfl ?_
        refine GL.unwant rfl rfl rfl rfl ?_
        refine GL.v Wpf ?_
        refine GL.nil ?_
        refine GE.seq ?_
        refine GC.cond_false rfl ?_
        refine GC.exit ?_
        refine GE.seq_exit ?_
        refine GE.loop_exit ?_
        refine GE.block_exit ?_
        refine GE.block ?_
        refine GE.seq ?_
        refine GC.region ?_
        refine GL.v Wmv ?_
        refine GL.v Wsu ?_
        refine GL.v Wag ?_
        refine GL.nil ?_
        -- round of loop 1, path Tff
        refine GE.round i (by omega) (by omega) Wkp (by rw [← midL_full hV (t := t) (.inl (by rw [hma]; omega))]; exact Wsb)
  · -- F
    obtain rfl : i = 0 := by omega
    refine GC.exit ?_
    refine GE.seq_exit ?_
    refine GE.loop_exit ?_
    refine GE.block_exit ?_
    refine GE.seq ?_
    refine GC.seq ?_
    refine GC.region ?_
    refine GL.buildSlice rfl (by first | exact bsInt0 | exact bsInt1 _ | exact bsInt2 _ _ | exact bsInt3 _ _ _ | exact bsInt4 _ _ _ _ | exact bsInt5 _ _ _ _ _ | exact bsInt6 _ _ _ _ _ _ | exact bsInt7 _ _ _ _ _ _ _ | exact bsInt8 _ _ _ _ _ _ _ _ | exact bsInt9 _ _ _ _ _ _ _ _ _ | exact bsInt10 _ _ _ _ _ _ _ _ _ _ | exact bsPart0 | exact bsPart1 ⟨_, _, _, _, _⟩ | exact bsNode1 ⟨_, _, _, _⟩ | exact bsPtr3 _ _ _) rfl (by decide) rfl ?_; intro g61
    refine GL.v Wag ?_
    refine GL.nil ?_
    refine GE.seq ?_
    refine GC.seq ?_
    refine GC.seq ?_
    refine GC.region ?_
    refine GL.v Wag ?_
    refine GL.nil ?_
    refine GE.seq ?_
    refine GC.block ?_
    -- loop 3: carried slots [9, 10]
    refine GC.loopK (α := Nat × Option Addr × Nat) (fun x => x.1 ≤ ms.length) (fun x => [(9, .slice x.2.1 (whichL x.1 (needB (gr ms) fs)).length x.2.2), (10, .int .i64 x.1)]) [(5, _)] (fun x => row intE x.2.1 x.2.2 (whichL x.1 (needB (gr ms) fs)) :: row boolE (some ⟨g14, 0, none⟩) ms.length (metL (gr ms) fs 0) :: L) (fun x => ms.length - x.1) (0, some ⟨g61, 0, none⟩, 0) Wkp Wsb (Nat.zero_le _) ?_
    rintro ⟨j, D, e⟩ hj
    dsimp only at hj ⊢
    have hwl := whichL_length j (needB (gr ms) fs)
    refine GC.seq ?_
    refine GC.seq ?_
    refine GC.region ?_
    refine GL.v Wmv ?_
    refine GL.v Wmv ?_
    refine GL.v Wln ?_
    refine GL.v Wls ?_
    refine GL.nil ?_
    refine GE.seq ?_
    refine GC.ifs (fun h2 => ?_) (fun h2 => ?_)
    · -- FT
      have hjl : j < ms.length := by omega
      refine GC.skip ?_
      refine GE.seq ?_
      refine GC.seq ?_
      refine GC.block ?_
      refine GC.seq ?_
      refine GC.region ?_
      refine GL.v Wmv ?_
      refine GL.v Wmv ?_
      refine GL.v Wix ?_
      refine GL.v Wle ?_
      refine GL.nil ?_
      refine GE.seq ?_
      refine GC.ifs (fun h3 => ?_) (fun h3 => ?_)
      · -- FTT
        refine GC.region ?_
        refine GL.v Wmv ?_
        refine GL.v Wmv ?_
        refine GL.buildSlice rfl (by first | exact bsInt0 | exact bsInt1 _ | exact bsInt2 _ _ | exact bsInt3 _ _ _ | exact bsInt4 _ _ _ _ | exact bsInt5 _ _ _ _ _ | exact bsInt6 _ _ _ _ _ _ | exact bsInt7 _ _ _ _ _ _ _ | exact bsInt8 _ _ _ _ _ _ _ _ | exact bsInt9 _ _ _ _ _ _ _ _ _ | exact bsInt10 _ _ _ _ _ _ _ _ _ _ | exact bsPart0 | exact bsPart1 ⟨_, _, _, _, _⟩ | exact bsNode1 ⟨_, _, _, _⟩ | exact bsPtr3 _ _ _) rfl (by decide) rfl ?_; intro g74
        first | (refine GL.append rfl rfl Wpk (by assumption) Wim (by first | rfl | (simp; done) | (simp; omega)) (by first | rfl | (simp; done) | (simp; omega)) (by first | omega | (simp; omega)) (by first | omega | (simp; omega)) rfl ?_; intro A75 c75) | (refine GL.append rfl rfl Wpk (Rd.of_pick Wpk) Imp.refl (by first | rfl | (simp; done) | (simp; omega)) (by first | rfl | (simp; done) | (simp; omega)) (by first | omega | (simp; omega)) (by first | omega | (simp; omega)) rfl ?_; intro A75 c75)
        refine GL.v Wag ?_
        refine GL.nil ?_
        refine GE.block ?_
        refine GE.seq ?_
        refine GC.region ?_
        refine GL.v Wmv ?_
        refine GL.v Wad ?_
        refine GL.v Wag ?_
        refine GL.nil ?_
        -- round of loop 3, path FTT
        rw [metL_end] at h3
        rw [whichL_yes h3]
        refine GE.round (j + 1, _, _) (by dsimp only; omega) (by dsimp only; omega) Wkp Wsb
      · -- FTF
        refine GC.skip ?_
        refine GE.block ?_
        refine GE.seq ?_
        refine GC.region ?_
        refine GL.v Wmv ?_
        refine GL.v Wad ?_
        refine GL.v Wag ?_
        refine GL.nil ?_
        -- round of loop 3, path FTF
        rw [metL_end] at h3
        rw [whichL_no (n := j) h3]
        refine GE.round (j + 1, D, e) (by dsimp only; omega) (by dsimp only; omega) Wkp Wsb
    · -- FF
      have hje : j = ms.length := by omega
      subst hje
      refine GC.exit ?_
      refine GE.seq_exit ?_
      refine GE.loop_exit ?_
      refine GE.block_exit ?_
      refine GE.seq ?_
      refine GC.seq ?_
      refine GC.region ?_
      refine GL.v Wmv ?_
      refine GL.v Wag ?_
      refine GL.nil ?_
      refine GE.seq ?_
      refine GC.ret ?_
      -- returns, path FF
      refine GE.ret_tmp (L' := row intE D e (whichL ms.length (needB (gr ms) fs)) :: L) (.inl rfl) rfl rfl Wsb ?_
      exact ⟨_, _, rfl, rfl⟩
theorem sNeedOf_spec (w0 : World) (L : List Asn) (A : Option Addr) (c : Nat) (ms : List NdM) (hG : RdG w0 L A c ms) (hS : SizeG ms) (n : Int) :
    Tr Try.prog 26 #[.agg #[.slice A ms.length c], .int .i64 n] w0 L (fun v L' => ∃ B d, v = .slice B (needOfL (gr ms) n).length d ∧ L' = row intE B d (needOfL (gr ms) n) :: L) := by
  have hN := hG.nodes
  have hSl := hS.1
  refine Tr.enter (args := [.agg #[.slice A ms.length c], .int .i64 n]) Try.func26 Try.ntmps26 rfl rfl ?_
  refine GC.seq ?_
  refine GC.region ?_
  refine GL.box_agg rfl rfl ?_; intro g2
  refine GL.v Wag ?_
  refine GL.nil ?_
  refine GE.seq ?_
  refine GC.seq ?_
  refine GC.seq ?_
  refine GC.region ?_
  refine GL.v Wlba ?_
  refine GL.callF rfl rfl (svalidGraph_spec _ _ _ _ _ (by first | assumption | exact RdG.imp (by assumption) Wim | exact RdG.of_pick Wpk Wpk) (by assumption)) ?_
  refine GL.v Wnt ?_
  refine GL.v Wmv ?_
  refine GL.gs (fun h1 => ?_) (fun h1 => ?_)
  · -- t
    refine GL.unwant rfl rfl rfl rfl ?_
    refine GL.unwant rfl rfl rfl rfl ?_
    refine GL.unwant rfl rfl rfl rfl ?_
    refine GL.unwant rfl rfl rfl rfl ?_
    refine GL.unwant rfl rfl rfl rfl ?_
    refine GL.unwant rfl rfl rfl rfl ?_
    refine GL.unwant rfl rfl rfl rfl ?_
    refine GL.v Wpt ?_
    refine GL.nil ?_
    refine GE.seq ?_
    refine GC.cond_true rfl ?_
    refine GC.seq ?_
    refine GC.region ?_
    refine GL.v Wag ?_
    refine GL.nil ?_
    refine GE.seq ?_
    refine GC.ret ?_
    refine GE.seq_ret ?_
    -- returns, path t
    refine GE.state (fun _ hs => hs.empty intE none) ?_
    refine GE.ret_tmp (L' := row intE none 0 [] :: L) (.inl rfl) rfl rfl Wsb ?_
    rw [needOfL, onlyL_no h1]
    exact ⟨none, 0, rfl, rfl⟩
  · -- f
    refine GL.want rfl rfl ?_
    refine GL.v Wmv ?_
    refine GL.want rfl rfl ?_
    refine GL.v Wfa ?_
    refine GL.want rfl rfl ?_
    refine GL.v Wlb ?_
    refine GL.want rfl rfl ?_
    refine GL.v Wln ?_
    refine GL.want rfl rfl ?_
    refine GL.v Wsu ?_
    refine GL.want rfl rfl ?_
    refine GL.callF rfl rfl (inRange_spec _ _ _ _ _) ?_
    refine GL.want rfl rfl ?_
    refine GL.v Wnt ?_
    refine GL.v Wpf ?_
    refine GL.nil ?_
    refine GE.seq ?_
    refine GC.ifs (fun h2 => ?_) (fun h2 => ?_)
    · -- fT
      refine GC.seq ?_
      refine GC.region ?_
      refine GL.v Wag ?_
      refine GL.nil ?_
      refine GE.seq ?_
      refine GC.ret ?_
      refine GE.seq_ret ?_
      -- returns, path fT
      refine GE.state (fun _ hs => hs.empty intE none) ?_
      refine GE.ret_tmp (L' := row intE none 0 [] :: L) (.inl rfl) rfl rfl Wsb ?_
      rw [needOfL, onlyL_out (by simpa using h2)]
      exact ⟨none, 0, rfl, rfl⟩
    · -- fF
      have hV := validG_iff.1 h1
      have hn := inB_iff.1 h2
      refine GC.skip ?_
      refine GE.seq ?_
      refine GC.seq ?_
      refine GC.region ?_
      refine GL.v Wlba ?_
      refine GL.v Wmv ?_
      refine GL.buildSlice rfl (by first | exact bsInt0 | exact bsInt1 _ | exact bsInt2 _ _ | exact bsInt3 _ _ _ | exact bsInt4 _ _ _ _ | exact bsInt5 _ _ _ _ _ | exact bsInt6 _ _ _ _ _ _ | exact bsInt7 _ _ _ _ _ _ _ | exact bsInt8 _ _ _ _ _ _ _ _ | exact bsInt9 _ _ _ _ _ _ _ _ _ | exact bsInt10 _ _ _ _ _ _ _ _ _ _ | exact bsPart0 | exact bsPart1 ⟨_, _, _, _, _⟩ | exact bsNode1 ⟨_, _, _, _⟩ | exact bsPtr3 _ _ _) rfl (by decide) rfl ?_; intro g19
      refine GL.call rfl rfl (need_spec w0 _ A c ms (by first | assumption | exact RdG.imp (by assumption) Wim | exact RdG.of_pick Wpk Wpk) hV _ _ [n] Wrd (by simp) (fun o ho => by rw [List.mem_singleton.1 ho]; exact hn.1)) ?_
      rintro _ _ ⟨B, d, rfl, rfl⟩
      rw [show needB (gr ms) [n] = (fun i => reachB (gr ms) i n.toNat) from funext (need_one _ _)]
      refine GL.v Wag ?_
      refine GL.nil ?_
      refine GE.seq ?_
      refine GC.ret ?_
      -- returns, path fF
      refine GE.ret_tmp (L' := row intE B d (whichL ms.length (fun i => reachB (gr ms) i n.toNat)) :: L) (.inl rfl) rfl rfl Wsb ?_
      rw [needOfL, onlyL_yes h1 (by simpa using h2), gr_length]
      exact ⟨_, _, rfl, rfl⟩
theorem sWatchedOf_spec (w0 : World) (L : List Asn) (A : Option Addr) (c : Nat) (ms : List NdM) (hG : RdG w0 L A c ms) (hS : SizeG ms) :
    Tr Try.prog 34 #[.agg #[.slice A ms.length c]] w0 L (fun v L' => ∃ B d, v = .slice B (watchedL (gr ms)).length d ∧ L' = row intE B d (watchedL (gr ms)) :: L) := by
  have hN := hG.nodes
  have hSl := hS.1
  have hel : (effL (gr ms)).length ≤ ms.length := Nat.le_trans (whichL_length _ _) (by rw [gr_length]; exact Nat.le_refl _)
  refine Tr.enter (args := [.agg #[.slice A ms.length c]]) Try.func34 Try.ntmps34 rfl rfl ?_
  refine GC.seq ?_
  refine GC.region ?_
  refine GL.box_agg rfl rfl ?_; intro g1
  refine GL.v Wag ?_
  refine GL.nil ?_
  refine GE.seq ?_
  refine GC.seq ?_
  refine GC.seq ?_
  refine GC.region ?_
  refine GL.v Wlba ?_
  refine GL.callF rfl rfl (svalidGraph_spec _ _ _ _ _ (by first | assumption | exact RdG.imp (by assumption) Wim | exact RdG.of_pick Wpk Wpk) (by assumption)) ?_
  refine GL.v Wnt ?_
  refine GL.nil ?_
  refine GE.seq ?_
  refine GC.ifs (fun h1 => ?_) (fun h1 => ?_)
  · -- T
    refine GC.seq ?_
    refine GC.region ?_
    refine GL.v Wag ?_
    refine GL.nil ?_
    refine GE.seq ?_
    refine GC.ret ?_
    refine GE.seq_ret ?_
    -- returns, path T
    refine GE.state (fun _ hs => hs.empty intE none) ?_
    refine GE.ret_tmp (L' := row intE none 0 [] :: L) (.inl rfl) rfl rfl Wsb ?_
    rw [watchedL_no h1]
    exact ⟨none, 0, rfl, rfl⟩
  · -- F
    have hV := validG_iff.1 h1
    refine GC.skip ?_
    refine GE.seq ?_
    refine GC.seq ?_
    refine GC.region_any #[false, false, true, true, false] mixed ?_
    refine GA.read 0 #[false, true, true, false, false] rfl (by exact Wlba) rfl rfl (by kernel_rfl) rfl (by kernel_rfl) (by kernel_rfl) (fun _ _ _ h => h) ?_
    refine GA.read 1 #[true, false, false, false, false] rfl (by exact Wlba) rfl rfl (by kernel_rfl) rfl (by kernel_rfl) (by kernel_rfl) (fun _ _ _ h => h) ?_
    refine GA.branch (rs := [2]) (JOk.live (by exact Wlba) (JOk.live (by exact Wlba) JOk.nil)) (by kernel_rfl) (by simp) ?_
    refine GAs.cons rfl ?_ ?_
    · -- F op 2
      refine GL.call rfl rfl (effects_spec w0 _ A c ms (by first | assumption | exact RdG.imp (by assumption) Wim | exact RdG.of_pick Wpk Wpk) hSl) ?_
      rintro _ _ ⟨B, d, rfl, rfl⟩
      refine GL.nil ?_
      refine GE.any ?_
      refine GA.branch (rs := [3]) (JOk.dead (by kernel_rfl) (JOk.live (by exact Wlba) JOk.nil)) (by kernel_rfl) (by simp) ?_
      refine GAs.cons rfl ?_ ?_
      · -- F op 3
        refine GL.call rfl rfl (need_spec w0 _ A c ms (by first | assumption | exact RdG.imp (by assumption) Wim | exact RdG.of_pick Wpk Wpk) hV _ _ (effL (gr ms)) Wrd (by omega) (effL_nonneg _)) ?_
        rintro _ _ ⟨D, e, rfl, rfl⟩
        rw [show needB (gr ms) (effL (gr ms)) = watchB (gr ms) from funext (watch_need _)]
        refine GL.nil ?_
        refine GE.any ?_
        refine GA.take 4 #[true, true, true, true, false] rfl (by exact Ev.assign rfl) rfl rfl (by kernel_rfl) rfl (by kernel_rfl) (by kernel_rfl) (fun _ _ _ h => h) ?_
        refine GA.done (JOk.dead (by kernel_rfl) (JOk.dead (by kernel_rfl) JOk.nil)) (by kernel_rfl) ?_
        refine GE.seq ?_
        refine GC.ret ?_
        -- returns, path F
        refine GE.ret_tmp (L' := row intE D e (whichL ms.length (watchB (gr ms))) :: L) (.inl rfl) rfl rfl Wsb ?_
        rw [watchedL_yes h1, gr_length]
        exact ⟨_, _, rfl, rfl⟩
      exact GAs.nil
    exact GAs.nil
end SG
