/- Contracts: drawn histories. -/
import Derived.Test.YtpkooglnapjcnaaD10
import Derived.Test.YtpkooglnapjcnaaD27
import Derived.Test.YtpkooglnapjcnaaD29
namespace SG
open Go Go.RowKit Go.Proofs
set_option linter.unusedVariables false
set_option linter.unusedSimpArgs false
set_option maxRecDepth 100000
theorem GE.rows_set {P : Program} {Q : Exit → Act → World → Prop} {w0 : World} {N : Nat} {fs : List Kf} {F : Env} {L L1 L2 : List Asn} {e : Exit} {ls : List LiM} (i : Nat) (m : LiM) (hi : i < ls.length) (p : Pick L m.rowA L1) (q : Pick L1 (rowsA ls) L2) (h : GE P Q w0 N fs e F (rowsA (ls.set i m) :: L2)) : GE P Q w0 N fs e F L := by
  refine GE.state (fun w hs => ?_) h
  have h1 : St w0 w (m.rowA :: L1) := hs.pick p
  have h2 : St w0 w (rowsA ls :: m.rowA :: L2) := h1.pick (.tail q)
  have h3 := (St.rows_out hi .head h2).drop
  have h4 : St w0 w (rowsA (ls.take i ++ m :: ls.drop (i + 1)) :: L2) := St.rows_in (.tail .head) .head h3
  rwa [show ls.take i ++ m :: ls.drop (i + 1) = ls.set i m by rw [List.set_eq_take_append_cons_drop]; simp [hi]] at h4
theorem GC.rows_snoc {P : Program} {Q : Exit → Act → World → Prop} {w0 : World} {N : Nat} {fs : List Kf} {F : Env} {L L1 L2 : List Asn} {e : Code} {ls : List LiM} (m : LiM) (p : Pick L m.rowA L1) (q : Pick L1 (rowsA ls) L2) (h : GC P Q w0 N fs e F (rowsA (ls ++ [m]) :: L2)) : GC P Q w0 N fs e F L :=
  GC.state (fun w hs => St.rows_snoc (St.pick (A := rowsA ls) (L := m.rowA :: L1) (L' := m.rowA :: L2) (hs.pick p) (.tail q) |>.pick (.tail .head))) h
theorem historyOf_spec (w0 : World) (L : List Asn) (g : Nat) (A : Option Addr) (c : Nat) (bs : List Int) (hC : Code0 w0 A c bs) (p : Int) (p0 : 0 ≤ p) (p1 : p ≤ 500000) :
    Tr Try.prog 95 #[.pointer (some ⟨g, 0, none⟩)] w0 (rdr g A c bs p :: L) (fun v L' => ∃ (D : Option Addr) (e : Nat) (ms : List NdM) (B : Option Addr) (d : Nat) (ls : List LiM) (a p' : Int), v = .tuple #[.agg #[.slice D ms.length e], .agg #[.slice B ls.length d, .int .i64 a]] ∧ 2 ≤ ms.length ∧ ms.length ≤ 10 ∧ (∀ m ∈ ms, m.parts.length ≤ 12) ∧ 1 ≤ ls.length ∧ ls.length ≤ 10 ∧ (∀ l ∈ ls, l.xs.length ≤ 11) ∧ -1 ≤ a ∧ a ≤ 10 ∧ p ≤ p' ∧ p' ≤ p + 2700 ∧ L' = row nodeE D e ms :: partsA ms :: row slE B d ls :: rowsA ls :: rdr g A c bs p' :: L) := by
  refine Tr.enter (args := [.pointer (some ⟨g, 0, none⟩)]) Try.func95 Try.ntmps95 rfl rfl ?_
  refine GC.seq ?_
  refine GC.region ?_
  refine GL.alloc rfl ?_; intro g2
  refine GL.alloc rfl ?_; intro g3
  refine GL.nil ?_
  refine GE.seq ?_
  refine GC.seq ?_
  refine GC.region ?_
  refine GL.v Wmv ?_
  refine GL.callP rfl rfl Wpk (someGraph_spec _ _ _ _ _ _ (by assumption) _ Wom Wom) ?_
  rintro _ _ ⟨D8, e8, ms8, p8, rfl, ms8a, ms8b, ms8c, p8a, p8b, rfl⟩
  refine GL.alloc rfl ?_; intro g4
  refine GL.store_varN rfl rfl rfl Wpk (by rfl) (by rfl) (by rfl) ?_
  refine GL.nil ?_
  refine GE.seq ?_
  refine GC.seq ?_
  refine GC.region ?_
  refine GL.v Wmv ?_
  refine GL.v Wlba ?_
  refine GL.callP rfl rfl Wpk (goodCells_spec _ _ _ _ _ _ (by assumption) _ Wom Wom _ _ _ (by first | assumption | exact RdG.imp (by assumption) Wim | exact RdG.of_pick Wpk Wpk) Wom) ?_
  rintro _ _ ⟨D11, e11, xs11, p11, rfl, xs11a, p11a, p11b, rfl⟩
  refine GL.buildSlice rfl (by first | exact bsInt0 | exact bsInt1 _ | exact bsInt2 _ _ | exact bsInt3 _ _ _ | exact bsInt4 _ _ _ _ | exact bsInt5 _ _ _ _ _ | exact bsInt6 _ _ _ _ _ _ | exact bsInt7 _ _ _ _ _ _ _ | exact bsInt8 _ _ _ _ _ _ _ _ | exact bsInt9 _ _ _ _ _ _ _ _ _ | exact bsInt10 _ _ _ _ _ _ _ _ _ _ | exact bsPart0 | exact bsPart1 ⟨_, _, _, _, _⟩ | exact bsNode1 ⟨_, _, _, _⟩ | exact bsPtr3 _ _ _ | exact bsSl0 | exact bsSl1 ⟨_, _, _⟩) rfl (by decide) rfl ?_; intro g12
  refine GL.v (by exact EvP.r (Ev.build rfl (by first | exact bdPart ⟨_, _, _, _, _⟩ | exact bdReader _ _ _ | exact bdPart4 _ _ _ _ | exact bdForm _ _ _ | exact bdForm0 | exact bdGraph0 | exact bdGraph _ _ _ | exact bdNode1 _ | exact bdNode2 _ _ _ _ | exact bdHist0 | exact bdHist1 _ _ _ | exact bdHist2 _ _ _ _))) ?_
  refine GL.alloc rfl ?_; intro g5
  refine GL.store_varN rfl rfl rfl Wpk (by rfl) (by rfl) (by rfl) ?_
  refine GL.nil ?_
  refine GE.seq ?_
  refine GC.seq ?_
  refine GC.seq ?_
  refine GC.region ?_
  refine GL.v Wmv ?_
  refine GL.buildSlice rfl (by first | exact bsInt0 | exact bsInt1 _ | exact bsInt2 _ _ | exact bsInt3 _ _ _ | exact bsInt4 _ _ _ _ | exact bsInt5 _ _ _ _ _ | exact bsInt6 _ _ _ _ _ _ | exact bsInt7 _ _ _ _ _ _ _ | exact bsInt8 _ _ _ _ _ _ _ _ | exact bsInt9 _ _ _ _ _ _ _ _ _ | exact bsInt10 _ _ _ _ _ _ _ _ _ _ | exact bsPart0 | exact bsPart1 ⟨_, _, _, _, _⟩ | exact bsNode1 ⟨_, _, _, _⟩ | exact bsPtr3 _ _ _ | exact bsSl0 | exact bsSl1 ⟨_, _, _⟩) rfl (by decide) rfl ?_; intro g15
  refine GL.front (A := rdr _ _ _ _ _) Wpk ?_
  refine GL.call rfl rfl (one_spec _ _ _ _ _ _ (by assumption) _ (by omega) (by omega) _ _ _ (by first | exact Rd.of_pick Wpk | exact Rd.imp (by assumption) Wim) _ (by rfl) (by first | omega | (simp; done) | (simp; omega)) (by first | omega | (simp; done) | (simp; omega))) ?_
  rintro _ _ ⟨x16, rfl, x16m, rfl⟩
  refine GL.v Wag ?_
  refine GL.nil ?_
  refine GE.seq ?_
  refine GC.block ?_
  -- loop 1: carried slots [6]
  have hx16 : 0 ≤ x16 ∧ x16 ≤ 9 := by simp at x16m; omega
  refine GC.state (fun _ hs => hs.rows0) ?_
  refine GC.rows_snoc (ls := []) ⟨D11, e11, xs11⟩ Wpk Wpk ?_
  refine GC.loopK (α := Option Addr × Nat × List LiM × Int × Int) (fun x => x.2.2.2.2 = x16 + 1 - x.2.2.1.length ∧ 1 ≤ x.2.2.1.length ∧ (x.2.2.1.length : Int) ≤ 1 + x16 ∧ (∀ l ∈ x.2.2.1, l.xs.length ≤ 11) ∧ p11 + 1 ≤ x.2.2.2.1 ∧ x.2.2.2.1 ≤ p11 + 1 + 20 * (x.2.2.1.length - 1)) (fun x => [(6, .int .i64 x.2.2.2.2)]) [(0, _), (2, _), (3, _), (4, _), (5, _)] (fun x => blk g5 72 [.slice x.1 x.2.2.1.length x.2.1, .int .i64 0] :: row slE x.1 x.2.1 x.2.2.1 :: rowsA x.2.2.1 :: rdr g A c bs x.2.2.2.1 :: blk g4 25 [.slice D8 ms8.length e8] :: row nodeE D8 e8 ms8 :: partsA ms8 :: blk g2 25 [.slice none 0 0] :: blk g3 72 [.slice none 0 0, .int .i64 0] :: L) (fun x => (x16 + 1 - x.2.2.1.length).toNat) (some ⟨g12, 0, none⟩, 1, [⟨D11, e11, xs11⟩], p11 + 1, x16) Wkp Wsb ⟨by simp, by simp, by simp; omega, by simp; omega, by dsimp only; omega, by simp⟩ ?_
  rintro ⟨E, f, ls, pp, m⟩ ⟨hm, hl1, hl2, hlx, hp1, hp2⟩
  dsimp only at hm hl1 hl2 hlx hp1 hp2 ⊢
  refine GC.seq ?_
  refine GC.seq ?_
  refine GC.region ?_
  refine GL.v Wmv ?_
  refine GL.v Wgt ?_
  refine GL.nil ?_
  refine GE.seq ?_
  refine GC.ifs (fun h1 => ?_) (fun h1 => ?_)
  · -- T
    refine GC.skip ?_
    refine GE.seq ?_
    refine GC.seq ?_
    refine GC.block ?_
    refine GC.region_any #[false, false, false, false, true, true, true, false, true] mixed ?_
    refine GA.take 0 #[false, false, true, true, true, true, false, false, false] rfl (by exact Ev.fieldAddr rfl) rfl rfl (by kernel_rfl) rfl (by kernel_rfl) (by kernel_rfl) (fun _ _ _ h => h) ?_
    refine GA.read 1 #[true, false, true, true, true, true, false, false, false] rfl (by exact Wlb) rfl rfl (by kernel_rfl) rfl (by kernel_rfl) (by kernel_rfl) (fun _ _ _ h => h) ?_
    refine GA.take 2 #[true, true, false, true, false, false, false, false, false] rfl (by exact Ev.move rfl) rfl rfl (by kernel_rfl) rfl (by kernel_rfl) (by kernel_rfl) (fun _ _ _ h => h) ?_
    refine GA.read 3 #[true, true, true, false, false, false, false, false, false] rfl (by exact Wlba) rfl rfl (by kernel_rfl) rfl (by kernel_rfl) (by kernel_rfl) (fun _ _ _ h => h) ?_
    refine GA.branch (rs := [4]) (JOk.live (by exact Wlba) (JOk.live (by exact Wlb) JOk.nil)) (by kernel_rfl) (by simp) ?_
    refine GAs.cons rfl ?_ ?_
    · -- T op 4
      refine GL.callP rfl rfl Wpk (goodCells_spec _ _ _ _ _ _ (by assumption) _ Wom Wom _ _ _ (by first | assumption | exact RdG.imp (by assumption) Wim | exact RdG.of_pick Wpk Wpk) Wom) ?_
      rintro _ _ ⟨D25, e25, xs25, p25, rfl, xs25a, p25a, p25b, rfl⟩
      refine GL.nil ?_
      refine GE.any ?_
      refine GA.branch (rs := [5]) (JOk.dead (by kernel_rfl) (JOk.live (by exact Wlb) JOk.nil)) (by kernel_rfl) (by simp) ?_
      refine GAs.cons rfl ?_ ?_
      · -- T op 5
        refine GL.buildSlice rfl (by first | exact bsInt0 | exact bsInt1 _ | exact bsInt2 _ _ | exact bsInt3 _ _ _ | exact bsInt4 _ _ _ _ | exact bsInt5 _ _ _ _ _ | exact bsInt6 _ _ _ _ _ _ | exact bsInt7 _ _ _ _ _ _ _ | exact bsInt8 _ _ _ _ _ _ _ _ | exact bsInt9 _ _ _ _ _ _ _ _ _ | exact bsInt10 _ _ _ _ _ _ _ _ _ _ | exact bsPart0 | exact bsPart1 ⟨_, _, _, _, _⟩ | exact bsNode1 ⟨_, _, _, _⟩ | exact bsPtr3 _ _ _ | exact bsSl0 | exact bsSl1 ⟨_, _, _⟩) rfl (by decide) rfl ?_; intro g26
        refine GL.nil ?_
        refine GE.any ?_
        refine GA.branch (rs := [6]) (JOk.dead (by kernel_rfl) (JOk.live (by exact Wlb) JOk.nil)) (by kernel_rfl) (by simp) ?_
        refine GAs.cons rfl ?_ ?_
        · -- T op 6
          first | (refine GL.append rfl rfl Wpk (by assumption) Wim (by first | rfl | (simp; done) | (simp; omega)) (by first | rfl | (simp; done) | (simp; omega)) (by first | omega | (simp; omega)) (by first | omega | (simp; omega)) rfl ?_; intro A27 c27) | (refine GL.append rfl rfl Wpk (Rd.of_pick Wpk) Imp.refl (by first | rfl | (simp; done) | (simp; omega)) (by first | rfl | (simp; done) | (simp; omega)) (by first | omega | (simp; omega)) (by first | omega | (simp; omega)) rfl ?_; intro A27 c27)
          refine GL.nil ?_
          refine GE.any ?_
          refine GA.take 7 #[true, true, true, true, true, true, true, false, false] rfl (by exact Ev.fieldAddr rfl) rfl rfl (by kernel_rfl) rfl (by kernel_rfl) (by kernel_rfl) (fun _ _ _ h => h) ?_
          refine GA.branch (rs := [8]) (JOk.dead (by kernel_rfl) (JOk.dead (by kernel_rfl) JOk.nil)) (by kernel_rfl) (by simp) ?_
          refine GAs.cons rfl ?_ ?_
          · -- T op 8
            refine GL.store_blk rfl rfl rfl Wpk (Nat.lt_of_lt_of_le (Nat.le_of_ble_eq_true (by rfl)) (Nat.le_refl _)) (by rfl) (by rfl) ?_
            refine GL.nil ?_
            refine GE.any ?_
            refine GA.done (JOk.dead (by kernel_rfl) (JOk.dead (by kernel_rfl) JOk.nil)) (by kernel_rfl) ?_
            refine GE.block ?_
            refine GE.seq ?_
            refine GC.region ?_
            refine GL.v Wmv ?_
            refine GL.v Wsu ?_
            refine GL.v Wag ?_
            refine GL.nil ?_
            -- round of loop 1, path T
            refine GE.rows_snoc ⟨D25, e25, xs25⟩ Wpk Wpk ?_
            refine GE.round (_, _, ls ++ [⟨D25, e25, xs25⟩], p25, m - 1) ⟨by simp; omega, by simp, by simp; omega, fun l hl => ?_, by dsimp only; omega, by simp; omega⟩ (by simp; omega) Wkp Wsb
            rcases List.mem_append.1 hl with h | h
            · exact hlx l h
            · rw [List.mem_singleton.1 h]; dsimp only; omega
          exact GAs.nil
        exact GAs.nil
      exact GAs.nil
    exact GAs.nil
  · -- F
    refine GC.exit ?_
    refine GE.seq_exit ?_
    refine GE.loop_exit ?_
    refine GE.block_exit ?_
    refine GE.seq ?_
    refine GC.seq ?_
    refine GC.region ?_
    refine GL.v Wmv ?_
    refine GL.v Wfa ?_
    refine GL.v Wlb ?_
    refine GL.v Wln ?_
    refine GL.front (A := rdr _ _ _ _ _) Wpk ?_
    refine GL.call rfl rfl (pick_spec _ _ _ _ _ _ (by assumption) _ _ (by omega) (by omega) (by omega) (by omega)) ?_
    rintro _ _ ⟨x33, rfl, x33a, x33b, x33c, rfl⟩
    refine GL.v Wfa ?_
    refine GL.store_blk rfl rfl rfl Wpk (Nat.lt_of_lt_of_le (Nat.le_of_ble_eq_true (by rfl)) (Nat.le_refl _)) (by rfl) (by rfl) ?_
    refine GL.nil ?_
    refine GE.seq ?_
    refine GC.seq ?_
    refine GC.seq ?_
    refine GC.region ?_
    refine GL.v Wmv ?_
    refine GL.front (A := rdr _ _ _ _ _) Wpk ?_
    refine GL.call rfl rfl (pick_spec _ _ _ _ _ _ (by assumption) _ _ (by omega) (by omega) (by omega) (by omega)) ?_
    rintro _ _ ⟨x36, rfl, x36a, x36b, x36c, rfl⟩
    refine GL.nil ?_
    refine GE.seq ?_
    refine GC.block ?_
    refine GC.seq ?_
    refine GC.region ?_
    refine GL.v Weq ?_
    refine GL.v Wag ?_
    refine GL.nil ?_
    refine GE.seq ?_
    refine GC.ifs (fun h2 => ?_) (fun h2 => ?_)
    · -- FT
      refine GC.region ?_
      refine GL.v Wmv ?_
      refine GL.buildSlice rfl (by first | exact bsInt0 | exact bsInt1 _ | exact bsInt2 _ _ | exact bsInt3 _ _ _ | exact bsInt4 _ _ _ _ | exact bsInt5 _ _ _ _ _ | exact bsInt6 _ _ _ _ _ _ | exact bsInt7 _ _ _ _ _ _ _ | exact bsInt8 _ _ _ _ _ _ _ _ | exact bsInt9 _ _ _ _ _ _ _ _ _ | exact bsInt10 _ _ _ _ _ _ _ _ _ _ | exact bsPart0 | exact bsPart1 ⟨_, _, _, _, _⟩ | exact bsNode1 ⟨_, _, _, _⟩ | exact bsPtr3 _ _ _ | exact bsSl0 | exact bsSl1 ⟨_, _, _⟩) rfl (by decide) rfl ?_; intro g40
      refine GL.front (A := rdr _ _ _ _ _) Wpk ?_
      refine GL.call rfl rfl (one_spec _ _ _ _ _ _ (by assumption) _ (by omega) (by omega) _ _ _ (by first | exact Rd.of_pick Wpk | exact Rd.imp (by assumption) Wim) _ (by rfl) (by first | omega | (simp; done) | (simp; omega)) (by first | omega | (simp; done) | (simp; omega))) ?_
      rintro _ _ ⟨x41, rfl, x41m, rfl⟩
      refine GL.v Wfa ?_
      refine GL.store_blk rfl rfl rfl Wpk (Nat.lt_of_lt_of_le (Nat.le_of_ble_eq_true (by rfl)) (Nat.le_refl _)) (by rfl) (by rfl) ?_
      refine GL.nil ?_
      refine GE.block ?_
      refine GE.seq ?_
      refine GC.seq ?_
      refine GC.region_any #[false, false, true, true] mixed ?_
      refine GA.read 0 #[false, true, false, false] rfl (by exact Wlba) rfl rfl (by kernel_rfl) rfl (by kernel_rfl) (by kernel_rfl) (fun _ _ _ h => h) ?_
      refine GA.read 1 #[true, false, true, false] rfl (by exact Wlba) rfl rfl (by kernel_rfl) rfl (by kernel_rfl) (by kernel_rfl) (fun _ _ _ h => h) ?_
      refine GA.branch (rs := [2]) (JOk.live (by exact Wlba) (JOk.live (by exact Wlba) JOk.nil)) (by kernel_rfl) (by simp) ?_
      refine GAs.cons rfl ?_ ?_
      · -- FT op 2
        refine GL.store_varN rfl rfl rfl Wpk (by rfl) (by rfl) (by rfl) ?_
        refine GL.nil ?_
        refine GE.any ?_
        refine GA.branch (rs := [3]) (JOk.live (by exact Wlba) (JOk.dead (by kernel_rfl) JOk.nil)) (by kernel_rfl) (by simp) ?_
        refine GAs.cons rfl ?_ ?_
        · -- FT op 3
          refine GL.store_varN rfl rfl rfl Wpk (by rfl) (by rfl) (by rfl) ?_
          refine GL.nil ?_
          refine GE.any ?_
          refine GA.done (JOk.dead (by kernel_rfl) (JOk.dead (by kernel_rfl) JOk.nil)) (by kernel_rfl) ?_
          refine GE.seq ?_
          refine GC.ret ?_
          -- returns, path FT
          refine GE.res2 (L' := row nodeE D8 e8 ms8 :: partsA ms8 :: row slE E f ls :: rowsA ls :: rdr g A c bs (pp + 1 + 1 + 1) :: L) (.inl rfl) rfl (Res1.cell rfl rfl (BlkRd.of_pick Wpk) (by rfl)) (Res1.cell rfl rfl (BlkRd.of_pick Wpk) (by rfl)) Wsb ?_
          have hx : -1 ≤ x41 ∧ x41 ≤ 10 := by simp at x41m; omega
          exact ⟨_, _, _, _, _, _, _, _, rfl, ms8a, ms8b, ms8c, by omega, by omega, hlx, hx.1, hx.2, by omega, by omega, rfl⟩
        exact GAs.nil
      exact GAs.nil
    · -- FF
      refine GC.seq ?_
      refine GC.region ?_
      refine GL.v Weq ?_
      refine GL.v Wag ?_
      refine GL.nil ?_
      refine GE.seq ?_
      refine GC.ifs (fun h3 => ?_) (fun h3 => ?_)
      · -- FFT
        refine GC.region_any #[false, false, false, false, true, false, true] mixed ?_
        refine GA.take 0 #[false, false, true, true, true, false, false] rfl (by exact Ev.fieldAddr rfl) rfl rfl (by kernel_rfl) rfl (by kernel_rfl) (by kernel_rfl) (fun _ _ _ h => h) ?_
        refine GA.read 1 #[true, false, true, true, true, false, false] rfl (by exact Wlb) rfl rfl (by kernel_rfl) rfl (by kernel_rfl) (by kernel_rfl) (fun _ _ _ h => h) ?_
        refine GA.take 2 #[true, true, false, true, false, false, false] rfl (by exact Ev.move rfl) rfl rfl (by kernel_rfl) rfl (by kernel_rfl) (by kernel_rfl) (fun _ _ _ h => h) ?_
        refine GA.read 3 #[true, true, true, false, false, false, false] rfl (by exact Wlba) rfl rfl (by kernel_rfl) rfl (by kernel_rfl) (by kernel_rfl) (fun _ _ _ h => h) ?_
        refine GA.branch (rs := [4]) (JOk.live (by exact Wlba) (JOk.live (by exact Wlb) JOk.nil)) (by kernel_rfl) (by simp) ?_
        refine GAs.cons rfl ?_ ?_
        · -- FFT op 4
          refine GL.callP rfl rfl Wpk (someCells_spec _ _ _ _ _ _ (by assumption) _ Wom Wom _ _ _ (by first | assumption | exact RdG.imp (by assumption) Wim | exact RdG.of_pick Wpk Wpk) Wom Wom) ?_
          rintro _ _ ⟨D49, e49, xs49, p49, rfl, xs49a, xs49b, p49a, p49b, rfl⟩
          refine GL.nil ?_
          refine GE.any ?_
          refine GA.read 5 #[true, true, true, true, true, false, false] rfl (by exact Wix) rfl rfl (by kernel_rfl) rfl (by kernel_rfl) (by kernel_rfl) (fun _ _ _ h => h) ?_
          refine GA.branch (rs := [6]) (JOk.live (by exact Wix) (JOk.dead (by kernel_rfl) (JOk.live (by exact Wlb) JOk.nil))) (by kernel_rfl) (by simp) ?_
          refine GAs.cons rfl ?_ ?_
          · -- FFT op 6
            refine GL.store_el (v' := (⟨D49, e49, xs49⟩ : LiM)) rfl rfl Wpk rfl rfl rfl Wom ?_
            refine GL.nil ?_
            refine GE.any ?_
            refine GA.done (JOk.dead (by kernel_rfl) (JOk.dead (by kernel_rfl) (JOk.dead (by kernel_rfl) JOk.nil))) (by kernel_rfl) ?_
            refine GE.block ?_
            refine GE.seq ?_
            refine GC.seq ?_
            refine GC.region_any #[false, false, true, true] mixed ?_
            refine GA.read 0 #[false, true, false, false] rfl (by exact Wlba) rfl rfl (by kernel_rfl) rfl (by kernel_rfl) (by kernel_rfl) (fun _ _ _ h => h) ?_
            refine GA.read 1 #[true, false, true, false] rfl (by exact Wlba) rfl rfl (by kernel_rfl) rfl (by kernel_rfl) (by kernel_rfl) (fun _ _ _ h => h) ?_
            refine GA.branch (rs := [2]) (JOk.live (by exact Wlba) (JOk.live (by exact Wlba) JOk.nil)) (by kernel_rfl) (by simp) ?_
            refine GAs.cons rfl ?_ ?_
            · -- FFT op 2
              refine GL.store_varN rfl rfl rfl Wpk (by rfl) (by rfl) (by rfl) ?_
              refine GL.nil ?_
              refine GE.any ?_
              refine GA.branch (rs := [3]) (JOk.live (by exact Wlba) (JOk.dead (by kernel_rfl) JOk.nil)) (by kernel_rfl) (by simp) ?_
              refine GAs.cons rfl ?_ ?_
              · -- FFT op 3
                refine GL.store_varN rfl rfl rfl Wpk (by rfl) (by rfl) (by rfl) ?_
                refine GL.nil ?_
                refine GE.any ?_
                refine GA.done (JOk.dead (by kernel_rfl) (JOk.dead (by kernel_rfl) JOk.nil)) (by kernel_rfl) ?_
                refine GE.seq ?_
                refine GC.ret ?_
                -- returns, path FFT
                refine GE.rows_set (ls := ls) 0 ⟨D49, e49, xs49⟩ (by omega) Wpk Wpk ?_
                refine GE.res2 (L' := row nodeE D8 e8 ms8 :: partsA ms8 :: row slE E f (ls.set 0 ⟨D49, e49, xs49⟩) :: rowsA (ls.set 0 ⟨D49, e49, xs49⟩) :: rdr g A c bs p49 :: L) (.inl rfl) rfl (Res1.cell rfl rfl (BlkRd.of_pick Wpk) (by rfl)) (Res1.cell rfl rfl (BlkRd.of_pick Wpk) (by rfl)) Wsb ?_
                exact ⟨_, _, _, E, f, ls.set 0 ⟨D49, e49, xs49⟩, x33, _, by rw [List.length_set]; rfl, ms8a, ms8b, ms8c, by simp; omega, by simp; omega, fun l hl => by rcases List.mem_or_eq_of_mem_set hl with h | rfl; exact hlx l h; dsimp only; omega, by omega, by have := x33b (by omega); omega, by omega, by omega, rfl⟩
              exact GAs.nil
            exact GAs.nil
          exact GAs.nil
        exact GAs.nil
      · -- FFF
        refine GC.skip ?_
        refine GE.block ?_
        refine GE.seq ?_
        refine GC.seq ?_
        refine GC.region_any #[false, false, true, true] mixed ?_
        refine GA.read 0 #[false, true, false, false] rfl (by exact Wlba) rfl rfl (by kernel_rfl) rfl (by kernel_rfl) (by kernel_rfl) (fun _ _ _ h => h) ?_
        refine GA.read 1 #[true, false, true, false] rfl (by exact Wlba) rfl rfl (by kernel_rfl) rfl (by kernel_rfl) (by kernel_rfl) (fun _ _ _ h => h) ?_
        refine GA.branch (rs := [2]) (JOk.live (by exact Wlba) (JOk.live (by exact Wlba) JOk.nil)) (by kernel_rfl) (by simp) ?_
        refine GAs.cons rfl ?_ ?_
        · -- FFF op 2
          refine GL.store_varN rfl rfl rfl Wpk (by rfl) (by rfl) (by rfl) ?_
          refine GL.nil ?_
          refine GE.any ?_
          refine GA.branch (rs := [3]) (JOk.live (by exact Wlba) (JOk.dead (by kernel_rfl) JOk.nil)) (by kernel_rfl) (by simp) ?_
          refine GAs.cons rfl ?_ ?_
          · -- FFF op 3
            refine GL.store_varN rfl rfl rfl Wpk (by rfl) (by rfl) (by rfl) ?_
            refine GL.nil ?_
            refine GE.any ?_
            refine GA.done (JOk.dead (by kernel_rfl) (JOk.dead (by kernel_rfl) JOk.nil)) (by kernel_rfl) ?_
            refine GE.seq ?_
            refine GC.ret ?_
            -- returns, path FFF
            refine GE.res2 (L' := row nodeE D8 e8 ms8 :: partsA ms8 :: row slE E f ls :: rowsA ls :: rdr g A c bs (pp + 1 + 1) :: L) (.inl rfl) rfl (Res1.cell rfl rfl (BlkRd.of_pick Wpk) (by rfl)) (Res1.cell rfl rfl (BlkRd.of_pick Wpk) (by rfl)) Wsb ?_
            exact ⟨_, _, _, _, _, _, _, _, rfl, ms8a, ms8b, ms8c, by omega, by omega, hlx, by omega, by have := x33b (by omega); omega, by omega, by omega, rfl⟩
          exact GAs.nil
        exact GAs.nil
theorem DrawValidHistory_spec (w0 : World) (L : List Asn) (A : Option Addr) (c : Nat) (bs : List Int) (hR : Rd w0 [] byteE A c bs) (hb : ∀ x ∈ bs, 0 ≤ x ∧ x ≤ 255) (hl : bs.length ≤ 1048576) (hc : bs.length ≤ c) :
    Tr Try.prog 42 #[.slice A bs.length c] w0 L (fun v L' => ∃ (D : Option Addr) (e : Nat) (ms : List NdM) (B : Option Addr) (d : Nat) (ls : List LiM) (a : Int), v = .tuple #[.agg #[.slice D ms.length e], .agg #[.slice B ls.length d, .int .i64 a]] ∧ 2 ≤ ms.length ∧ ms.length ≤ 10 ∧ (∀ m ∈ ms, m.parts.length ≤ 12) ∧ 1 ≤ ls.length ∧ ls.length ≤ 10 ∧ (∀ l ∈ ls, l.xs.length ≤ 11) ∧ -1 ≤ a ∧ a ≤ 10 ∧ L' = row nodeE D e ms :: partsA ms :: row slE B d ls :: rowsA ls :: L) := by
  have hC := Code0.take hR hb
  refine Tr.enter (args := [.slice A bs.length c]) Try.func42 Try.ntmps42 rfl rfl ?_
  refine GC.seq ?_
  refine GC.region ?_
  refine GL.alloc rfl ?_; intro g2
  refine GL.alloc rfl ?_; intro g3
  refine GL.nil ?_
  refine GE.seq ?_
  refine GC.seq ?_
  refine GC.region ?_
  refine GL.v Wmv ?_
  refine GL.call rfl rfl (newReader_spec _ _ _ _ _ (by assumption) Wom Wom) ?_
  rintro _ _ ⟨g5, rfl, rfl⟩
  refine GL.callP rfl rfl Wpk (historyOf_spec _ _ _ _ _ _ (by assumption) _ Wom Wom) ?_
  rintro _ _ ⟨D6, e6, ms6, B6, d6, ls6, a6, p6, rfl, ms6a, ms6b, ms6c, ls6a, ls6b, ls6c, a6a, a6b, p6a, p6b, rfl⟩
  refine GL.v Wxt ?_
  refine GL.v Wxt ?_
  refine GL.store_varN rfl rfl rfl Wpk (by rfl) (by rfl) (by rfl) ?_
  refine GL.store_varN rfl rfl rfl Wpk (by rfl) (by rfl) (by rfl) ?_
  refine GL.nil ?_
  refine GE.seq ?_
  refine GC.ret ?_
  -- returns, path 
  refine GE.res2 (L' := row nodeE D6 e6 ms6 :: partsA ms6 :: row slE B6 d6 ls6 :: rowsA ls6 :: L) (.inl rfl) rfl (Res1.cell rfl rfl (BlkRd.of_pick Wpk) (by rfl)) (Res1.cell rfl rfl (BlkRd.of_pick Wpk) (by rfl)) Wsb ?_
  exact ⟨_, _, _, _, _, _, _, rfl, ms6a, ms6b, ms6c, ls6a, ls6b, ls6c, a6a, a6b, rfl⟩
theorem DrawNewHistory_spec (w0 : World) (L : List Asn) (A : Option Addr) (c : Nat) (bs : List Int) (hR : Rd w0 [] byteE A c bs) (hb : ∀ x ∈ bs, 0 ≤ x ∧ x ≤ 255) (hl : bs.length ≤ 1048576) (hc : bs.length ≤ c) :
    Tr Try.prog 48 #[.slice A bs.length c] w0 L (fun v L' => ∃ (D : Option Addr) (e : Nat) (ms : List NdM) (B : Option Addr) (d : Nat) (xs : List Int), v = .tuple #[.agg #[.slice D ms.length e], .slice B xs.length d] ∧ 2 ≤ ms.length ∧ ms.length ≤ 10 ∧ (∀ m ∈ ms, m.parts.length ≤ 12) ∧ ms.length ≤ xs.length ∧ xs.length ≤ ms.length + 1 ∧ L' = row nodeE D e ms :: partsA ms :: row intE B d xs :: L) := by
  have hC := Code0.take hR hb
  refine Tr.enter (args := [.slice A bs.length c]) Try.func48 Try.ntmps48 rfl rfl ?_
  refine GC.seq ?_
  refine GC.region ?_
  refine GL.alloc rfl ?_; intro g2
  refine GL.v Wag ?_
  refine GL.nil ?_
  refine GE.seq ?_
  refine GC.seq ?_
  refine GC.region ?_
  refine GL.v Wmv ?_
  refine GL.call rfl rfl (newReader_spec _ _ _ _ _ (by assumption) Wom Wom) ?_
  rintro _ _ ⟨g5, rfl, rfl⟩
  refine GL.callP rfl rfl Wpk (graphOf_spec _ _ _ _ _ _ (by assumption) _ Wom Wom) ?_
  rintro _ _ ⟨D6, e6, ms6, B6, d6, xs6, p6, rfl, ms6a, ms6b, ms6c, xs6a, xs6b, p6a, p6b, rfl⟩
  refine GL.v Wxt ?_
  refine GL.v Wxt ?_
  refine GL.store_varN rfl rfl rfl Wpk (by rfl) (by rfl) (by rfl) ?_
  refine GL.v Wag ?_
  refine GL.nil ?_
  refine GE.seq ?_
  refine GC.ret ?_
  -- returns, path 
  refine GE.res2 (L' := row nodeE D6 e6 ms6 :: partsA ms6 :: row intE B6 d6 xs6 :: L) (.inl rfl) rfl (Res1.cell rfl rfl (BlkRd.of_pick Wpk) (by rfl)) (Res1.tmp rfl) Wsb ?_
  exact ⟨_, _, _, _, _, _, rfl, ms6a, ms6b, ms6c, xs6a, xs6b, rfl⟩
theorem DrawCommitCells_spec (w0 : World) (L : List Asn) (A : Option Addr) (c : Nat) (bs : List Int) (hR : Rd w0 [] byteE A c bs) (hb : ∀ x ∈ bs, 0 ≤ x ∧ x ≤ 255) (hl : bs.length ≤ 1048576) (hc : bs.length ≤ c) :
    Tr Try.prog 55 #[.slice A bs.length c] w0 L (fun v L' => ∃ (D : Option Addr) (e : Nat) (ms : List NdM) (B : Option Addr) (d : Nat) (ls : List LiM) (a : Int) (E : Option Addr) (f : Nat) (xs : List Int), v = .tuple #[.agg #[.slice D ms.length e], .agg #[.slice B ls.length d, .int .i64 a], .slice E xs.length f] ∧ 2 ≤ ms.length ∧ ms.length ≤ 10 ∧ (∀ m ∈ ms, m.parts.length ≤ 12) ∧ 1 ≤ ls.length ∧ ls.length ≤ 10 ∧ (∀ l ∈ ls, l.xs.length ≤ 11) ∧ -1 ≤ a ∧ a ≤ 10 ∧ xs.length ≤ 11 ∧ L' = row nodeE D e ms :: partsA ms :: row slE B d ls :: rowsA ls :: row intE E f xs :: L) := by
  have hC := Code0.take hR hb
  refine Tr.enter (args := [.slice A bs.length c]) Try.func55 Try.ntmps55 rfl rfl ?_
  refine GC.seq ?_
  refine GC.region ?_
  refine GL.alloc rfl ?_; intro g2
  refine GL.alloc rfl ?_; intro g3
  refine GL.v Wag ?_
  refine GL.nil ?_
  refine GE.seq ?_
  refine GC.seq ?_
  refine GC.region ?_
  refine GL.v Wmv ?_
  refine GL.call rfl rfl (newReader_spec _ _ _ _ _ (by assumption) Wom Wom) ?_
  rintro _ _ ⟨g9, rfl, rfl⟩
  refine GL.v Wag ?_
  refine GL.nil ?_
  refine GE.seq ?_
  refine GC.seq ?_
  refine GC.region ?_
  refine GL.v Wmv ?_
  refine GL.callP rfl rfl Wpk (historyOf_spec _ _ _ _ _ _ (by assumption) _ Wom Wom) ?_
  rintro _ _ ⟨D12, e12, ms12, B12, d12, ls12, a12, p12, rfl, ms12a, ms12b, ms12c, ls12a, ls12b, ls12c, a12a, a12b, p12a, p12b, rfl⟩
  refine GL.v Wmv ?_
  refine GL.v Wxt ?_
  refine GL.v Wxt ?_
  refine GL.alloc rfl ?_; intro g6
  refine GL.alloc rfl ?_; intro g7
  refine GL.store_varN rfl rfl rfl Wpk (by rfl) (by rfl) (by rfl) ?_
  refine GL.store_varN rfl rfl rfl Wpk (by rfl) (by rfl) (by rfl) ?_
  refine GL.nil ?_
  refine GE.seq ?_
  refine GC.seq ?_
  refine GC.region_any #[false, false, false, false, true, true, true, false] mixed ?_
  refine GA.read 0 #[false, true, true, true, true, false, false, false] rfl (by exact Wlba) rfl rfl (by kernel_rfl) rfl (by kernel_rfl) (by kernel_rfl) (fun _ _ _ h => h) ?_
  refine GA.read 1 #[true, false, true, true, true, true, false, false] rfl (by exact Wlba) rfl rfl (by kernel_rfl) rfl (by kernel_rfl) (by kernel_rfl) (fun _ _ _ h => h) ?_
  refine GA.take 2 #[true, true, false, true, false, false, false, false] rfl (by exact Ev.move rfl) rfl rfl (by kernel_rfl) rfl (by kernel_rfl) (by kernel_rfl) (fun _ _ _ h => h) ?_
  refine GA.read 3 #[true, true, true, false, false, false, false, false] rfl (by exact Wlba) rfl rfl (by kernel_rfl) rfl (by kernel_rfl) (by kernel_rfl) (fun _ _ _ h => h) ?_
  refine GA.branch (rs := [4]) (JOk.live (by exact Wlba) (JOk.live (by exact Wlba) (JOk.live (by exact Wlba) JOk.nil))) (by kernel_rfl) (by simp) ?_
  refine GAs.cons rfl ?_ ?_
  · --  op 4
    refine GL.callP rfl rfl Wpk (someCells_spec _ _ _ _ _ _ (by assumption) _ Wom Wom _ _ _ (by first | assumption | exact RdG.imp (by assumption) Wim | exact RdG.of_pick Wpk Wpk) Wom Wom) ?_
    rintro _ _ ⟨D19, e19, xs19, p19, rfl, xs19a, xs19b, p19a, p19b, rfl⟩
    refine GL.nil ?_
    refine GE.any ?_
    refine GA.branch (rs := [5]) (JOk.dead (by kernel_rfl) (JOk.live (by exact Wlba) (JOk.live (by exact Wlba) JOk.nil))) (by kernel_rfl) (by simp) ?_
    refine GAs.cons rfl ?_ ?_
    · --  op 5
      refine GL.store_varN rfl rfl rfl Wpk (by rfl) (by rfl) (by rfl) ?_
      refine GL.nil ?_
      refine GE.any ?_
      refine GA.branch (rs := [6]) (JOk.dead (by kernel_rfl) (JOk.live (by exact Wlba) (JOk.dead (by kernel_rfl) JOk.nil))) (by kernel_rfl) (by simp) ?_
      refine GAs.cons rfl ?_ ?_
      · --  op 6
        refine GL.store_varN rfl rfl rfl Wpk (by rfl) (by rfl) (by rfl) ?_
        refine GL.nil ?_
        refine GE.any ?_
        refine GA.take 7 #[true, true, true, true, true, true, true, false] rfl (by exact Ev.assign rfl) rfl rfl (by kernel_rfl) rfl (by kernel_rfl) (by kernel_rfl) (fun _ _ _ h => h) ?_
        refine GA.done (JOk.dead (by kernel_rfl) (JOk.dead (by kernel_rfl) (JOk.dead (by kernel_rfl) JOk.nil))) (by kernel_rfl) ?_
        refine GE.seq ?_
        refine GC.ret ?_
        -- returns, path 
        refine GE.res3 (L' := row nodeE D12 e12 ms12 :: partsA ms12 :: row slE B12 d12 ls12 :: rowsA ls12 :: row intE D19 e19 xs19 :: L) (.inl rfl) rfl (Res1.cell rfl rfl (BlkRd.of_pick Wpk) (by rfl)) (Res1.cell rfl rfl (BlkRd.of_pick Wpk) (by rfl)) (Res1.tmp rfl) Wsb ?_
        exact ⟨_, _, _, _, _, _, _, _, _, _, rfl, ms12a, ms12b, ms12c, ls12a, ls12b, ls12c, a12a, a12b, by omega, rfl⟩
      exact GAs.nil
    exact GAs.nil
  exact GAs.nil
end SG
