/- Contracts: drawn graphs with cells twice. -/
import Derived.Test.YtojffodplphlaaaD13
import Derived.Test.YtojffodplphlaaaD25
namespace SG
open Go Go.RowKit Go.Proofs
set_option linter.unusedVariables false
set_option linter.unusedSimpArgs false
set_option maxRecDepth 100000
theorem twoCells_spec (w0 : World) (L : List Asn) (g : Nat) (A : Option Addr) (c : Nat) (bs : List Int) (hC : Code0 w0 A c bs) (p : Int) (p0 : 0 ≤ p) (p1 : p ≤ 490000) :
    Tr Try.prog 87 #[.pointer (some ⟨g, 0, none⟩)] w0 (rdr g A c bs p :: L) (fun v L' => ∃ (D : Option Addr) (e : Nat) (ms : List NdM) (B : Option Addr) (d : Nat) (xs : List Int) (E : Option Addr) (f : Nat) (ys : List Int) (p' : Int), v = .tuple #[.agg #[.slice D ms.length e], .slice B xs.length d, .slice E ys.length f] ∧ 2 ≤ ms.length ∧ ms.length ≤ 10 ∧ (∀ m ∈ ms, m.parts.length ≤ 12) ∧ xs.length ≤ 11 ∧ ys.length ≤ 11 ∧ p ≤ p' ∧ p' ≤ p + 2400 ∧ L' = row nodeE D e ms :: partsA ms :: row intE B d xs :: row intE E f ys :: rdr g A c bs p' :: L) := by
  refine Tr.enter (args := [.pointer (some ⟨g, 0, none⟩)]) Try.func87 Try.ntmps87 rfl rfl ?_
  refine GC.seq ?_
  refine GC.region ?_
  refine GL.alloc rfl ?_; intro g2
  refine GL.v Wag ?_
  refine GL.v Wag ?_
  refine GL.nil ?_
  refine GE.seq ?_
  refine GC.seq ?_
  refine GC.region ?_
  refine GL.v Wmv ?_
  refine GL.callP rfl rfl Wpk (graphOf_spec _ _ _ _ _ _ (by assumption) _ Wom Wom) ?_
  rintro _ _ ⟨D12, e12, ms12, B12, d12, xs12, p12, rfl, ms12a, ms12b, ms12c, xs12a, xs12b, p12a, p12b, rfl⟩
  have hS12 := SizeG.small ms12b ms12c
  refine GL.v Wmv ?_
  refine GL.v Wxt ?_
  refine GL.v Wxt ?_
  refine GL.alloc rfl ?_; intro g5
  refine GL.store_varN rfl rfl rfl Wpk (by rfl) (by rfl) (by rfl) ?_
  refine GL.v Wag ?_
  refine GL.nil ?_
  refine GE.seq ?_
  refine GC.seq ?_
  refine GC.region ?_
  refine GL.v Wmv ?_
  refine GL.call rfl rfl (copyInts_spec _ _ _ _ _ Wrd Wom) ?_
  rintro _ _ ⟨B16, d16, rfl, rfl⟩
  refine GL.v Wag ?_
  refine GL.nil ?_
  refine GE.seq ?_
  refine GC.seq ?_
  refine GC.seq ?_
  refine GC.region ?_
  refine GL.v Wlba ?_
  refine GL.callF rfl rfl (svalidGraph_spec _ _ _ _ _ (by first | assumption | exact RdG.imp (by assumption) Wim | exact RdG.of_pick Wpk Wpk) (by assumption)) ?_
  refine GL.v Wnt ?_
  refine GL.v Wmv ?_
  refine GL.gs (fun h1 => ?_) (fun h1 => ?_)
  · -- t
    refine GL.unwant rfl rfl rfl rfl ?_
    refine GL.unwant rfl rfl rfl rfl ?_
    refine GL.unwant rfl rfl rfl rfl ?_
    refine GL.unwant rfl rfl rfl rfl ?_
    refine GL.v Wpt ?_
    refine GL.v Wmv ?_
    refine GL.unwant rfl rfl rfl rfl ?_
    refine GL.unwant rfl rfl rfl rfl ?_
    refine GL.unwant rfl rfl rfl rfl ?_
    refine GL.v Wpt ?_
    refine GL.nil ?_
    refine GE.seq ?_
    refine GC.cond_true rfl ?_
    refine GC.seq ?_
    refine GC.region_any #[false, false, false, false, true, true, false, false] mixed ?_
    refine GA.read 0 #[false, true, true, true, true, false, false, false] rfl (by exact Wlba) rfl rfl (by kernel_rfl) rfl (by kernel_rfl) (by kernel_rfl) (fun _ _ _ h => h) ?_
    refine GA.take 1 #[true, false, true, true, true, true, false, false] rfl (by exact Ev.move rfl) rfl rfl (by kernel_rfl) rfl (by kernel_rfl) (by kernel_rfl) (fun _ _ _ h => h) ?_
    refine GA.take 2 #[true, true, false, true, false, false, false, false] rfl (by exact Ev.move rfl) rfl rfl (by kernel_rfl) rfl (by kernel_rfl) (by kernel_rfl) (fun _ _ _ h => h) ?_
    refine GA.read 3 #[true, true, true, false, false, false, false, false] rfl (by exact Wlba) rfl rfl (by kernel_rfl) rfl (by kernel_rfl) (by kernel_rfl) (fun _ _ _ h => h) ?_
    refine GA.branch (rs := [4]) (JOk.live (by exact Wlba) (JOk.live (by exact Wlba) JOk.nil)) (by kernel_rfl) (by simp) ?_
    refine GAs.cons rfl ?_ ?_
    · -- t op 4
      refine GL.callP rfl rfl Wpk (someCells_spec _ _ _ _ _ _ (by assumption) _ Wom Wom _ _ _ (by first | assumption | exact RdG.imp (by assumption) Wim | exact RdG.of_pick Wpk Wpk) Wom Wom) ?_
      rintro _ _ ⟨D35, e35, xs35, p35, rfl, xs35a, xs35b, p35a, p35b, rfl⟩
      refine GL.nil ?_
      refine GE.any ?_
      refine GA.branch (rs := [5]) (JOk.dead (by kernel_rfl) (JOk.live (by exact Wlba) JOk.nil)) (by kernel_rfl) (by simp) ?_
      refine GAs.cons rfl ?_ ?_
      · -- t op 5
        refine GL.store_varN rfl rfl rfl Wpk (by rfl) (by rfl) (by rfl) ?_
        refine GL.nil ?_
        refine GE.any ?_
        refine GA.take 6 #[true, true, true, true, true, true, false, false] rfl (by exact Ev.assign rfl) rfl rfl (by kernel_rfl) rfl (by kernel_rfl) (by kernel_rfl) (fun _ _ _ h => h) ?_
        refine GA.take 7 #[true, true, true, true, true, true, true, false] rfl (by exact Ev.assign rfl) rfl rfl (by kernel_rfl) rfl (by kernel_rfl) (by kernel_rfl) (fun _ _ _ h => h) ?_
        refine GA.done (JOk.dead (by kernel_rfl) (JOk.dead (by kernel_rfl) JOk.nil)) (by kernel_rfl) ?_
        refine GE.seq ?_
        refine GC.ret ?_
        refine GE.seq_ret ?_
        -- returns, path t
        refine GE.res3 (L' := row nodeE D12 e12 ms12 :: partsA ms12 :: row intE B12 d12 xs12 :: row intE D35 e35 xs35 :: rdr g A c bs p35 :: L) (.inl rfl) rfl (Res1.cell rfl rfl (BlkRd.of_pick Wpk) (by rfl)) (Res1.tmp rfl) (Res1.tmp rfl) Wsb ?_
        exact ⟨_, _, _, _, _, _, _, _, _, _, rfl, ms12a, ms12b, ms12c, by omega, by omega, by omega, by omega, rfl⟩
      exact GAs.nil
    exact GAs.nil
  · -- f
    refine GL.want rfl rfl ?_
    refine GL.v Wlba ?_
    refine GL.want rfl rfl ?_
    refine GL.v Wmv ?_
    refine GL.want rfl rfl ?_
    refine GL.callF rfl rfl (svalidCells_spec _ _ _ _ _ (by first | assumption | exact RdG.imp (by assumption) Wim | exact RdG.of_pick Wpk Wpk) _ _ _ Wrd Wom) ?_
    refine GL.want rfl rfl ?_
    refine GL.v Wnt ?_
    refine GL.v Wpf ?_
    refine GL.v Wmv ?_
    refine GL.gs (fun h2 => ?_) (fun h2 => ?_)
    · -- ft
      refine GL.unwant rfl rfl rfl rfl ?_
      refine GL.unwant rfl rfl rfl rfl ?_
      refine GL.unwant rfl rfl rfl rfl ?_
      refine GL.v Wpt ?_
      refine GL.nil ?_
      refine GE.seq ?_
      refine GC.cond_true rfl ?_
      refine GC.seq ?_
      refine GC.region_any #[false, false, false, false, true, true, false, false] mixed ?_
      refine GA.read 0 #[false, true, true, true, true, false, false, false] rfl (by exact Wlba) rfl rfl (by kernel_rfl) rfl (by kernel_rfl) (by kernel_rfl) (fun _ _ _ h => h) ?_
      refine GA.take 1 #[true, false, true, true, true, true, false, false] rfl (by exact Ev.move rfl) rfl rfl (by kernel_rfl) rfl (by kernel_rfl) (by kernel_rfl) (fun _ _ _ h => h) ?_
      refine GA.take 2 #[true, true, false, true, false, false, false, false] rfl (by exact Ev.move rfl) rfl rfl (by kernel_rfl) rfl (by kernel_rfl) (by kernel_rfl) (fun _ _ _ h => h) ?_
      refine GA.read 3 #[true, true, true, false, false, false, false, false] rfl (by exact Wlba) rfl rfl (by kernel_rfl) rfl (by kernel_rfl) (by kernel_rfl) (fun _ _ _ h => h) ?_
      refine GA.branch (rs := [4]) (JOk.live (by exact Wlba) (JOk.live (by exact Wlba) JOk.nil)) (by kernel_rfl) (by simp) ?_
      refine GAs.cons rfl ?_ ?_
      · -- ft op 4
        refine GL.callP rfl rfl Wpk (someCells_spec _ _ _ _ _ _ (by assumption) _ Wom Wom _ _ _ (by first | assumption | exact RdG.imp (by assumption) Wim | exact RdG.of_pick Wpk Wpk) Wom Wom) ?_
        rintro _ _ ⟨D35, e35, xs35, p35, rfl, xs35a, xs35b, p35a, p35b, rfl⟩
        refine GL.nil ?_
        refine GE.any ?_
        refine GA.branch (rs := [5]) (JOk.dead (by kernel_rfl) (JOk.live (by exact Wlba) JOk.nil)) (by kernel_rfl) (by simp) ?_
        refine GAs.cons rfl ?_ ?_
        · -- ft op 5
          refine GL.store_varN rfl rfl rfl Wpk (by rfl) (by rfl) (by rfl) ?_
          refine GL.nil ?_
          refine GE.any ?_
          refine GA.take 6 #[true, true, true, true, true, true, false, false] rfl (by exact Ev.assign rfl) rfl rfl (by kernel_rfl) rfl (by kernel_rfl) (by kernel_rfl) (fun _ _ _ h => h) ?_
          refine GA.take 7 #[true, true, true, true, true, true, true, false] rfl (by exact Ev.assign rfl) rfl rfl (by kernel_rfl) rfl (by kernel_rfl) (by kernel_rfl) (fun _ _ _ h => h) ?_
          refine GA.done (JOk.dead (by kernel_rfl) (JOk.dead (by kernel_rfl) JOk.nil)) (by kernel_rfl) ?_
          refine GE.seq ?_
          refine GC.ret ?_
          refine GE.seq_ret ?_
          -- returns, path ft
          refine GE.res3 (L' := row nodeE D12 e12 ms12 :: partsA ms12 :: row intE B12 d12 xs12 :: row intE D35 e35 xs35 :: rdr g A c bs p35 :: L) (.inl rfl) rfl (Res1.cell rfl rfl (BlkRd.of_pick Wpk) (by rfl)) (Res1.tmp rfl) (Res1.tmp rfl) Wsb ?_
          exact ⟨_, _, _, _, _, _, _, _, _, _, rfl, ms12a, ms12b, ms12c, by omega, by omega, by omega, by omega, rfl⟩
        exact GAs.nil
      exact GAs.nil
    · -- ff
      refine GL.want rfl rfl ?_
      refine GL.v Wmv ?_
      refine GL.want rfl rfl ?_
      refine GL.front (A := rdr _ _ _ _ _) Wpk ?_
      refine GL.call rfl rfl (pick_spec _ _ _ _ _ _ (by assumption) _ _ (by omega) (by omega) (by omega) (by omega)) ?_
      rintro _ _ ⟨x28, rfl, x28a, x28b, x28c, rfl⟩
      refine GL.want rfl rfl ?_
      refine GL.v Weq ?_
      refine GL.v Wpf ?_
      refine GL.nil ?_
      refine GE.seq ?_
      refine GC.ifs (fun h3 => ?_) (fun h3 => ?_)
      · -- ffT
        refine GC.seq ?_
        refine GC.region_any #[false, false, false, false, true, true, false, false] mixed ?_
        refine GA.read 0 #[false, true, true, true, true, false, false, false] rfl (by exact Wlba) rfl rfl (by kernel_rfl) rfl (by kernel_rfl) (by kernel_rfl) (fun _ _ _ h => h) ?_
        refine GA.take 1 #[true, false, true, true, true, true, false, false] rfl (by exact Ev.move rfl) rfl rfl (by kernel_rfl) rfl (by kernel_rfl) (by kernel_rfl) (fun _ _ _ h => h) ?_
        refine GA.take 2 #[true, true, false, true, false, false, false, false] rfl (by exact Ev.move rfl) rfl rfl (by kernel_rfl) rfl (by kernel_rfl) (by kernel_rfl) (fun _ _ _ h => h) ?_
        refine GA.read 3 #[true, true, true, false, false, false, false, false] rfl (by exact Wlba) rfl rfl (by kernel_rfl) rfl (by kernel_rfl) (by kernel_rfl) (fun _ _ _ h => h) ?_
        refine GA.branch (rs := [4]) (JOk.live (by exact Wlba) (JOk.live (by exact Wlba) JOk.nil)) (by kernel_rfl) (by simp) ?_
        refine GAs.cons rfl ?_ ?_
        · -- ffT op 4
          refine GL.callP rfl rfl Wpk (someCells_spec _ _ _ _ _ _ (by assumption) _ Wom Wom _ _ _ (by first | assumption | exact RdG.imp (by assumption) Wim | exact RdG.of_pick Wpk Wpk) Wom Wom) ?_
          rintro _ _ ⟨D35, e35, xs35, p35, rfl, xs35a, xs35b, p35a, p35b, rfl⟩
          refine GL.nil ?_
          refine GE.any ?_
          refine GA.branch (rs := [5]) (JOk.dead (by kernel_rfl) (JOk.live (by exact Wlba) JOk.nil)) (by kernel_rfl) (by simp) ?_
          refine GAs.cons rfl ?_ ?_
          · -- ffT op 5
            refine GL.store_varN rfl rfl rfl Wpk (by rfl) (by rfl) (by rfl) ?_
            refine GL.nil ?_
            refine GE.any ?_
            refine GA.take 6 #[true, true, true, true, true, true, false, false] rfl (by exact Ev.assign rfl) rfl rfl (by kernel_rfl) rfl (by kernel_rfl) (by kernel_rfl) (fun _ _ _ h => h) ?_
            refine GA.take 7 #[true, true, true, true, true, true, true, false] rfl (by exact Ev.assign rfl) rfl rfl (by kernel_rfl) rfl (by kernel_rfl) (by kernel_rfl) (fun _ _ _ h => h) ?_
            refine GA.done (JOk.dead (by kernel_rfl) (JOk.dead (by kernel_rfl) JOk.nil)) (by kernel_rfl) ?_
            refine GE.seq ?_
            refine GC.ret ?_
            refine GE.seq_ret ?_
            -- returns, path ffT
            refine GE.res3 (L' := row nodeE D12 e12 ms12 :: partsA ms12 :: row intE B12 d12 xs12 :: row intE D35 e35 xs35 :: rdr g A c bs p35 :: L) (.inl rfl) rfl (Res1.cell rfl rfl (BlkRd.of_pick Wpk) (by rfl)) (Res1.tmp rfl) (Res1.tmp rfl) Wsb ?_
            exact ⟨_, _, _, _, _, _, _, _, _, _, rfl, ms12a, ms12b, ms12c, by omega, by omega, by omega, by omega, rfl⟩
          exact GAs.nil
        exact GAs.nil
      · -- ffF
        refine GC.skip ?_
        refine GE.seq ?_
        refine GC.seq ?_
        refine GC.seq ?_
        refine GC.region ?_
        refine GL.v Wmv ?_
        refine GL.front (A := rdr _ _ _ _ _) Wpk ?_
        refine GL.call rfl rfl (pick_spec _ _ _ _ _ _ (by assumption) _ _ (by omega) (by omega) (by omega) (by omega)) ?_
        rintro _ _ ⟨x37, rfl, x37a, x37b, x37c, rfl⟩
        refine GL.v Wag ?_
        refine GL.nil ?_
        refine GE.seq ?_
        refine GC.block ?_
        -- loop 1: carried slots [8]
        have hx37 := x37b (by omega)
        refine GC.loopK (α := List Int × Int × Int) (fun x => x.1.length = xs12.length ∧ -1 ≤ x.2.2 ∧ x.2.2 ≤ 2 ∧ p12 + 1 + 1 ≤ x.2.1 ∧ x.2.1 ≤ p12 + 2 + 3 * (2 - x.2.2)) (fun x => [(8, .int .i64 x.2.2)]) [(0, _), (2, _), (5, _), (6, _), (7, _)] (fun x => row intE B16 d16 x.1 :: row nodeE D12 e12 ms12 :: partsA ms12 :: row intE B12 d12 xs12 :: blk g5 25 [.slice D12 ms12.length e12] :: blk g2 25 [.slice none 0 0] :: rdr g A c bs x.2.1 :: L) (fun x => (x.2.2 + 1).toNat) (xs12, p12 + 1 + 1, x37) Wkp Wsb ⟨rfl, by dsimp only; omega, by dsimp only; omega, by dsimp only; omega, by dsimp only; omega⟩ ?_
        rintro ⟨ys, pp, m⟩ ⟨hyl, hm0, hm1, hp1, hp2⟩
        dsimp only at hyl hm0 hm1 hp1 hp2 ⊢
        rw [← hyl]
        refine GC.seq ?_
        refine GC.seq ?_
        refine GC.region ?_
        refine GL.v Wmv ?_
        refine GL.v Wgq ?_
        refine GL.nil ?_
        refine GE.seq ?_
        refine GC.ifs (fun h4 => ?_) (fun h4 => ?_)
        · -- ffFT
          refine GC.skip ?_
          refine GE.seq ?_
          refine GC.seq ?_
          refine GC.block ?_
          refine GC.seq ?_
          refine GC.region ?_
          refine GL.v Wmv ?_
          refine GL.v Wmv ?_
          refine GL.v Wln ?_
          refine GL.front (A := rdr _ _ _ _ _) Wpk ?_
          refine GL.call rfl rfl (pick_spec _ _ _ _ _ _ (by assumption) _ _ (by omega) (by omega) (by omega) (by omega)) ?_
          rintro _ _ ⟨x45, rfl, x45a, x45b, x45c, rfl⟩
          have hx45 := x45b (by omega)
          refine GL.v Wag ?_
          refine GL.nil ?_
          refine GE.seq ?_
          refine GC.seq ?_
          refine GC.region ?_
          refine GL.v Wlba ?_
          refine GL.v Wmv ?_
          refine GL.callF rfl rfl (isCell_spec _ _ _ _ _ (by first | assumption | exact RdG.imp (by assumption) Wim | exact RdG.of_pick Wpk Wpk) _ (by first | omega | exact SizeG.le (by assumption))) ?_
          refine GL.nil ?_
          refine GE.seq ?_
          refine GC.ifs (fun h5 => ?_) (fun h5 => ?_)
          · -- ffFTT
            refine GC.region ?_
            refine GL.v Wmv ?_
            refine GL.v Wmv ?_
            refine GL.v Wmv ?_
            refine GL.v Wmv ?_
            refine GL.front (A := rdr _ _ _ _ _) Wpk ?_
            refine GL.call rfl rfl (pick_spec _ _ _ _ _ _ (by assumption) _ _ (by omega) (by omega) (by omega) (by omega)) ?_
            rintro _ _ ⟨x53, rfl, x53a, x53b, x53c, rfl⟩
            refine GL.buildSlice rfl (by first | exact bsInt0 | exact bsInt1 _ | exact bsInt2 _ _ | exact bsInt3 _ _ _ | exact bsInt4 _ _ _ _ | exact bsInt5 _ _ _ _ _ | exact bsInt6 _ _ _ _ _ _ | exact bsInt7 _ _ _ _ _ _ _ | exact bsInt8 _ _ _ _ _ _ _ _ | exact bsInt9 _ _ _ _ _ _ _ _ _ | exact bsInt10 _ _ _ _ _ _ _ _ _ _ | exact bsPart0 | exact bsPart1 ⟨_, _, _, _, _⟩ | exact bsNode1 ⟨_, _, _, _⟩ | exact bsPtr3 _ _ _ | exact bsSl0 | exact bsSl1 ⟨_, _, _⟩) rfl (by decide) rfl ?_; intro g54
            refine GL.front (A := rdr _ _ _ _ _) Wpk ?_
            refine GL.call rfl rfl (one_spec _ _ _ _ _ _ (by assumption) _ (by omega) (by omega) _ _ _ (by first | exact Rd.of_pick Wpk | exact Rd.imp (by assumption) Wim) _ (by rfl) (by first | omega | (simp; done) | (simp; omega)) (by first | omega | (simp; done) | (simp; omega))) ?_
            rintro _ _ ⟨x55, rfl, x55m, rfl⟩
            refine GL.v Wix ?_
            refine GL.store_el rfl rfl Wpk rfl rfl rfl (by first | omega | (simp; done) | (simp; omega)) ?_
            refine GL.nil ?_
            refine GE.block ?_
            refine GE.seq ?_
            refine GC.region ?_
            refine GL.v Wmv ?_
            refine GL.v Wsu ?_
            refine GL.v Wag ?_
            refine GL.nil ?_
            -- round of loop 1, path ffFTT
            refine GE.round (ys.set x45.toNat x55, pp + 1 + 1 + 1, m - 1) ⟨by simp, by dsimp only; omega, by dsimp only; omega, by dsimp only; omega, by dsimp only; omega⟩ (by dsimp only; omega) Wkp Wsb
          · -- ffFTF
            refine GC.skip ?_
            refine GE.block ?_
            refine GE.seq ?_
            refine GC.region ?_
            refine GL.v Wmv ?_
            refine GL.v Wsu ?_
            refine GL.v Wag ?_
            refine GL.nil ?_
            -- round of loop 1, path ffFTF
            refine GE.round (ys, pp + 1, m - 1) ⟨rfl, by dsimp only; omega, by dsimp only; omega, by dsimp only; omega, by dsimp only; omega⟩ (by dsimp only; omega) Wkp Wsb
        · -- ffFF
          refine GC.exit ?_
          refine GE.seq_exit ?_
          refine GE.loop_exit ?_
          refine GE.block_exit ?_
          refine GE.seq ?_
          refine GC.seq ?_
          refine GC.region ?_
          refine GL.v Wlba ?_
          refine GL.v Wmv ?_
          refine GL.v Wmv ?_
          refine GL.store_varN rfl rfl rfl Wpk (by rfl) (by rfl) (by rfl) ?_
          refine GL.v Wag ?_
          refine GL.v Wag ?_
          refine GL.nil ?_
          refine GE.seq ?_
          refine GC.ret ?_
          -- returns, path ffFF
          refine GE.res3 (L' := row nodeE D12 e12 ms12 :: partsA ms12 :: row intE B12 d12 xs12 :: row intE B16 d16 ys :: rdr g A c bs pp :: L) (.inl rfl) rfl (Res1.cell rfl rfl (BlkRd.of_pick Wpk) (by rfl)) (Res1.tmp rfl) (Res1.tmp rfl) Wsb ?_
          exact ⟨_, _, _, B12, d12, xs12, _, _, _, _, by rw [hyl], ms12a, ms12b, ms12c, by omega, by omega, by omega, by omega, rfl⟩
theorem DrawChangedBy_spec (w0 : World) (L : List Asn) (A : Option Addr) (c : Nat) (bs : List Int) (hR : Rd w0 [] byteE A c bs) (hb : ∀ x ∈ bs, 0 ≤ x ∧ x ≤ 255) (hl : bs.length ≤ 1048576) (hc : bs.length ≤ c) :
    Tr Try.prog 37 #[.slice A bs.length c] w0 L (fun v L' => ∃ (D : Option Addr) (e : Nat) (ms : List NdM) (B : Option Addr) (d : Nat) (xs : List Int) (E : Option Addr) (f : Nat) (ys : List Int), v = .tuple #[.agg #[.slice D ms.length e], .slice B xs.length d, .slice E ys.length f] ∧ 2 ≤ ms.length ∧ ms.length ≤ 10 ∧ (∀ m ∈ ms, m.parts.length ≤ 12) ∧ xs.length ≤ 11 ∧ ys.length ≤ 11 ∧ L' = row nodeE D e ms :: partsA ms :: row intE B d xs :: row intE E f ys :: L) := by
  have hC := Code0.take hR hb
  refine Tr.enter (args := [.slice A bs.length c]) Try.func37 Try.ntmps37 rfl rfl ?_
  refine GC.seq ?_
  refine GC.region ?_
  refine GL.alloc rfl ?_; intro g2
  refine GL.v Wag ?_
  refine GL.v Wag ?_
  refine GL.nil ?_
  refine GE.seq ?_
  refine GC.seq ?_
  refine GC.region ?_
  refine GL.v Wmv ?_
  refine GL.call rfl rfl (newReader_spec _ _ _ _ _ (by assumption) Wom Wom) ?_
  rintro _ _ ⟨g6, rfl, rfl⟩
  refine GL.callP rfl rfl Wpk (twoCells_spec _ _ _ _ _ _ (by assumption) _ Wom Wom) ?_
  rintro _ _ ⟨D7, e7, ms7, B7, d7, xs7, E7, f7, ys7, p7, rfl, ms7a, ms7b, ms7c, xs7a, ys7a, p7a, p7b, rfl⟩
  refine GL.v Wxt ?_
  refine GL.v Wxt ?_
  refine GL.v Wxt ?_
  refine GL.store_varN rfl rfl rfl Wpk (by rfl) (by rfl) (by rfl) ?_
  refine GL.v Wag ?_
  refine GL.v Wag ?_
  refine GL.nil ?_
  refine GE.seq ?_
  refine GC.ret ?_
  -- returns, path 
  refine GE.res3 (L' := row nodeE D7 e7 ms7 :: partsA ms7 :: row intE B7 d7 xs7 :: row intE E7 f7 ys7 :: L) (.inl rfl) rfl (Res1.cell rfl rfl (BlkRd.of_pick Wpk) (by rfl)) (Res1.tmp rfl) (Res1.tmp rfl) Wsb ?_
  exact ⟨_, _, _, _, _, _, _, _, _, rfl, ms7a, ms7b, ms7c, xs7a, ys7a, rfl⟩
theorem DrawMustRun_spec (w0 : World) (L : List Asn) (A : Option Addr) (c : Nat) (bs : List Int) (hR : Rd w0 [] byteE A c bs) (hb : ∀ x ∈ bs, 0 ≤ x ∧ x ≤ 255) (hl : bs.length ≤ 1048576) (hc : bs.length ≤ c) :
    Tr Try.prog 43 #[.slice A bs.length c] w0 L (fun v L' => ∃ (D : Option Addr) (e : Nat) (ms : List NdM) (B : Option Addr) (d : Nat) (xs : List Int) (E : Option Addr) (f : Nat) (ys : List Int), v = .tuple #[.agg #[.slice D ms.length e], .slice B xs.length d, .slice E ys.length f] ∧ 2 ≤ ms.length ∧ ms.length ≤ 10 ∧ (∀ m ∈ ms, m.parts.length ≤ 12) ∧ xs.length ≤ 11 ∧ ys.length ≤ 11 ∧ L' = row nodeE D e ms :: partsA ms :: row intE B d xs :: row intE E f ys :: L) := by
  have hC := Code0.take hR hb
  refine Tr.enter (args := [.slice A bs.length c]) Try.func43 Try.ntmps43 rfl rfl ?_
  refine GC.seq ?_
  refine GC.region ?_
  refine GL.alloc rfl ?_; intro g2
  refine GL.v Wag ?_
  refine GL.v Wag ?_
  refine GL.nil ?_
  refine GE.seq ?_
  refine GC.seq ?_
  refine GC.region ?_
  refine GL.v Wmv ?_
  refine GL.call rfl rfl (newReader_spec _ _ _ _ _ (by assumption) Wom Wom) ?_
  rintro _ _ ⟨g6, rfl, rfl⟩
  refine GL.callP rfl rfl Wpk (twoCells_spec _ _ _ _ _ _ (by assumption) _ Wom Wom) ?_
  rintro _ _ ⟨D7, e7, ms7, B7, d7, xs7, E7, f7, ys7, p7, rfl, ms7a, ms7b, ms7c, xs7a, ys7a, p7a, p7b, rfl⟩
  refine GL.v Wxt ?_
  refine GL.v Wxt ?_
  refine GL.v Wxt ?_
  refine GL.store_varN rfl rfl rfl Wpk (by rfl) (by rfl) (by rfl) ?_
  refine GL.v Wag ?_
  refine GL.v Wag ?_
  refine GL.nil ?_
  refine GE.seq ?_
  refine GC.ret ?_
  -- returns, path 
  refine GE.res3 (L' := row nodeE D7 e7 ms7 :: partsA ms7 :: row intE B7 d7 xs7 :: row intE E7 f7 ys7 :: L) (.inl rfl) rfl (Res1.cell rfl rfl (BlkRd.of_pick Wpk) (by rfl)) (Res1.tmp rfl) (Res1.tmp rfl) Wsb ?_
  exact ⟨_, _, _, _, _, _, _, _, _, rfl, ms7a, ms7b, ms7c, xs7a, ys7a, rfl⟩
end SG
