/- Contracts: the drawn formulas. -/
import Derived.Test.YtojffodplphlaaaC6
import Derived.Test.YtojffodplphlaaaD4
namespace SG
open Go Go.RowKit Go.Proofs
set_option linter.unusedVariables false
set_option linter.unusedSimpArgs false
set_option maxRecDepth 100000
theorem someFormula_spec (w0 : World) (L : List Asn) (g : Nat) (A : Option Addr) (c : Nat) (bs : List Int) (hC : Code0 w0 A c bs) (p : Int) (p0 : 0 ≤ p) (p1 : p ≤ 800000) :
    Tr Try.prog 104 #[.pointer (some ⟨g, 0, none⟩)] w0 (rdr g A c bs p :: L) (fun v L' => ∃ (D : Option Addr) (e : Nat) (fp : List Part) (p' : Int), v = .agg #[.slice D fp.length e] ∧ 1 ≤ fp.length ∧ fp.length ≤ 13 ∧ p ≤ p' ∧ p' ≤ p + 110 ∧ L' = row partE D e fp :: rdr g A c bs p' :: L) := by
  refine Tr.enter (args := [.pointer (some ⟨g, 0, none⟩)]) Try.func104 Try.ntmps104 rfl rfl ?_
  refine GC.seq ?_
  refine GC.region ?_
  refine GL.alloc rfl ?_; intro g2
  refine GL.nil ?_
  refine GE.seq ?_
  refine GC.seq ?_
  refine GC.region ?_
  refine GL.v Wmv ?_
  refine GL.buildSlice rfl (by first | exact bsInt0 | exact bsInt1 _ | exact bsInt2 _ _ | exact bsInt3 _ _ _ | exact bsInt4 _ _ _ _ | exact bsInt5 _ _ _ _ _ | exact bsInt6 _ _ _ _ _ _ | exact bsInt7 _ _ _ _ _ _ _ | exact bsInt8 _ _ _ _ _ _ _ _ | exact bsInt9 _ _ _ _ _ _ _ _ _ | exact bsInt10 _ _ _ _ _ _ _ _ _ _ | exact bsPart0 | exact bsPart1 ⟨_, _, _, _, _⟩ | exact bsNode1 ⟨_, _, _, _⟩ | exact bsPtr3 _ _ _ | exact bsSl0 | exact bsSl1 ⟨_, _, _⟩) rfl (by decide) rfl ?_; intro g6
  refine GL.callP rfl rfl Wpk (goodFormula_spec _ _ _ _ _ _ (by assumption) _ Wom Wom _ _ _ Wrd _ Wom Wom) ?_
  rintro _ _ ⟨D7, e7, fp7, p7, rfl, fp7a, fp7b, p7a, p7b, rfl⟩
  refine GL.alloc rfl ?_; intro g3
  refine GL.store_varN rfl rfl rfl Wpk (by rfl) (by rfl) (by rfl) ?_
  refine GL.nil ?_
  refine GE.seq ?_
  refine GC.seq ?_
  refine GC.region ?_
  refine GL.v Wmv ?_
  refine GL.v Wfa ?_
  refine GL.v Wlb ?_
  refine GL.v Wln ?_
  refine GL.front (A := rdr _ _ _ _ _) Wpk ?_
  refine GL.call rfl rfl (pick_spec _ _ _ _ _ _ (by assumption) _ _ (by omega) (by omega) (by omega) (by omega)) ?_
  rintro _ _ ⟨x12, rfl, x12a, x12b, x12c, rfl⟩
  have hlt := x12b (by omega)
  refine GL.v Wag ?_
  refine GL.nil ?_
  refine GE.seq ?_
  refine GC.seq ?_
  refine GC.seq ?_
  refine GC.region ?_
  refine GL.v Wmv ?_
  refine GL.front (A := rdr _ _ _ _ _) Wpk ?_
  refine GL.call rfl rfl (pick_spec _ _ _ _ _ _ (by assumption) _ _ (by omega) (by omega) (by omega) (by omega)) ?_
  rintro _ _ ⟨x14, rfl, x14a, x14b, x14c, rfl⟩
  refine GL.nil ?_
  refine GE.seq ?_
  refine GC.block ?_
  refine GC.seq ?_
  refine GC.region ?_
  refine GL.v Weq ?_
  refine GL.v Wag ?_
  refine GL.nil ?_
  refine GE.seq ?_
  refine GC.ifs (fun h1 => ?_) (fun h1 => ?_)
  · -- T
    refine GC.region_any #[false, false, false, false, true, true, false, false, true] mixed ?_
    refine GA.take 0 #[false, false, true, true, true, true, false, false, false] rfl (by exact Ev.fieldAddr rfl) rfl rfl (by kernel_rfl) rfl (by kernel_rfl) (by kernel_rfl) (fun _ _ _ h => h) ?_
    refine GA.read 1 #[true, false, true, true, true, true, false, false, false] rfl (by exact Wlb) rfl rfl (by kernel_rfl) rfl (by kernel_rfl) (by kernel_rfl) (fun _ _ _ h => h) ?_
    refine GA.take 2 #[true, true, false, true, true, true, false, false, false] rfl (by exact Ev.move rfl) rfl rfl (by kernel_rfl) rfl (by kernel_rfl) (by kernel_rfl) (fun _ _ _ h => h) ?_
    refine GA.take 3 #[true, true, true, false, true, false, false, false, false] rfl (by exact Ev.move rfl) rfl rfl (by kernel_rfl) rfl (by kernel_rfl) (by kernel_rfl) (fun _ _ _ h => h) ?_
    refine GA.branch (rs := [4]) (JOk.live (by exact Wlb) JOk.nil) (by kernel_rfl) (by simp) ?_
    refine GAs.cons rfl ?_ ?_
    · -- T op 4
      refine GL.buildSlice rfl (by first | exact bsInt0 | exact bsInt1 _ | exact bsInt2 _ _ | exact bsInt3 _ _ _ | exact bsInt4 _ _ _ _ | exact bsInt5 _ _ _ _ _ | exact bsInt6 _ _ _ _ _ _ | exact bsInt7 _ _ _ _ _ _ _ | exact bsInt8 _ _ _ _ _ _ _ _ | exact bsInt9 _ _ _ _ _ _ _ _ _ | exact bsInt10 _ _ _ _ _ _ _ _ _ _ | exact bsPart0 | exact bsPart1 ⟨_, _, _, _, _⟩ | exact bsNode1 ⟨_, _, _, _⟩ | exact bsPtr3 _ _ _ | exact bsSl0 | exact bsSl1 ⟨_, _, _⟩) rfl (by decide) rfl ?_; intro g21
      refine GL.nil ?_
      refine GE.any ?_
      refine GA.branch (rs := [5]) (JOk.live (by exact Wlb) JOk.nil) (by kernel_rfl) (by simp) ?_
      refine GAs.cons rfl ?_ ?_
      · -- T op 5
        refine GL.front (A := rdr _ _ _ _ _) Wpk ?_
        refine GL.call rfl rfl (one_spec _ _ _ _ _ _ (by assumption) _ (by omega) (by omega) _ _ _ (by first | exact Rd.of_pick Wpk | exact Rd.imp (by assumption) Wim) _ (by rfl) (by first | omega | (simp; done) | (simp; omega)) (by first | omega | (simp; done) | (simp; omega))) ?_
        rintro _ _ ⟨x22, rfl, x22m, rfl⟩
        refine GL.nil ?_
        refine GE.any ?_
        refine GA.read 6 #[true, true, true, true, true, true, false, false, false] rfl (by exact Wix) rfl rfl (by kernel_rfl) rfl (by kernel_rfl) (by kernel_rfl) (fun _ _ _ h => h) ?_
        refine GA.take 7 #[true, true, true, true, true, true, true, false, false] rfl (by exact Ev.fieldAddr rfl) rfl rfl (by kernel_rfl) rfl (by kernel_rfl) (by kernel_rfl) (fun _ _ _ h => h) ?_
        refine GA.branch (rs := [8]) (JOk.live (by exact Wix) (JOk.live (by exact Wlb) JOk.nil)) (by kernel_rfl) (by simp) ?_
        refine GAs.cons rfl ?_ ?_
        · -- T op 8
          refine GL.store_part rfl rfl Wpk (by first | omega | (simp; done) | (simp; omega)) rfl ?_
          refine GL.nil ?_
          refine GE.any ?_
          refine GA.done (JOk.dead (by kernel_rfl) (JOk.dead (by kernel_rfl) JOk.nil)) (by kernel_rfl) ?_
          refine GE.block ?_
          refine GE.seq ?_
          refine GC.seq ?_
          refine GC.region ?_
          refine GL.v Wlba ?_
          refine GL.store_varN rfl rfl rfl Wpk (by rfl) (by rfl) (by rfl) ?_
          refine GL.nil ?_
          refine GE.seq ?_
          refine GC.ret ?_
          -- returns, path T
          refine GE.ret_cell (L' := row partE D7 e7 (fp7.set x12.toNat (Part.put fp7[x12.toNat] 0 x22)) :: rdr g A c bs (p7 + 1 + 1 + 1) :: L) (.inl rfl) rfl rfl rfl (BlkRd.of_pick Wpk) (by rfl) Wsb ?_
          exact ⟨D7, e7, _, _, by rw [List.length_set], by simp; omega, by simp; omega, by omega, by omega, rfl⟩
        exact GAs.nil
      exact GAs.nil
    exact GAs.nil
  · -- F
    refine GC.seq ?_
    refine GC.region ?_
    refine GL.v Weq ?_
    refine GL.v Wag ?_
    refine GL.nil ?_
    refine GE.seq ?_
    refine GC.ifs (fun h2 => ?_) (fun h2 => ?_)
    · -- FT
      refine GC.region_any #[false, false, false, false, false, true, true, false, false, true] mixed ?_
      refine GA.take 0 #[false, false, true, true, true, true, true, false, false, false] rfl (by exact Ev.fieldAddr rfl) rfl rfl (by kernel_rfl) rfl (by kernel_rfl) (by kernel_rfl) (fun _ _ _ h => h) ?_
      refine GA.read 1 #[true, false, true, true, true, true, true, false, false, false] rfl (by exact Wlb) rfl rfl (by kernel_rfl) rfl (by kernel_rfl) (by kernel_rfl) (fun _ _ _ h => h) ?_
      refine GA.take 2 #[true, true, false, true, true, true, true, false, false, false] rfl (by exact Ev.move rfl) rfl rfl (by kernel_rfl) rfl (by kernel_rfl) (by kernel_rfl) (fun _ _ _ h => h) ?_
      refine GA.take 3 #[true, true, true, false, true, true, false, false, false, false] rfl (by exact Ev.move rfl) rfl rfl (by kernel_rfl) rfl (by kernel_rfl) (by kernel_rfl) (fun _ _ _ h => h) ?_
      refine GA.take 4 #[true, true, true, true, false, false, false, false, false, false] rfl (by exact Ev.move rfl) rfl rfl (by kernel_rfl) rfl (by kernel_rfl) (by kernel_rfl) (fun _ _ _ h => h) ?_
      refine GA.branch (rs := [5]) (JOk.live (by exact Wlb) JOk.nil) (by kernel_rfl) (by simp) ?_
      refine GAs.cons rfl ?_ ?_
      · -- FT op 5
        refine GL.buildSlice rfl (by first | exact bsInt0 | exact bsInt1 _ | exact bsInt2 _ _ | exact bsInt3 _ _ _ | exact bsInt4 _ _ _ _ | exact bsInt5 _ _ _ _ _ | exact bsInt6 _ _ _ _ _ _ | exact bsInt7 _ _ _ _ _ _ _ | exact bsInt8 _ _ _ _ _ _ _ _ | exact bsInt9 _ _ _ _ _ _ _ _ _ | exact bsInt10 _ _ _ _ _ _ _ _ _ _ | exact bsPart0 | exact bsPart1 ⟨_, _, _, _, _⟩ | exact bsNode1 ⟨_, _, _, _⟩ | exact bsPtr3 _ _ _ | exact bsSl0 | exact bsSl1 ⟨_, _, _⟩) rfl (by decide) rfl ?_; intro g32
        refine GL.nil ?_
        refine GE.any ?_
        refine GA.branch (rs := [6]) (JOk.live (by exact Wlb) JOk.nil) (by kernel_rfl) (by simp) ?_
        refine GAs.cons rfl ?_ ?_
        · -- FT op 6
          refine GL.front (A := rdr _ _ _ _ _) Wpk ?_
          refine GL.call rfl rfl (one_spec _ _ _ _ _ _ (by assumption) _ (by omega) (by omega) _ _ _ (by first | exact Rd.of_pick Wpk | exact Rd.imp (by assumption) Wim) _ (by rfl) (by first | omega | (simp; done) | (simp; omega)) (by first | omega | (simp; done) | (simp; omega))) ?_
          rintro _ _ ⟨x33, rfl, x33m, rfl⟩
          refine GL.nil ?_
          refine GE.any ?_
          refine GA.read 7 #[true, true, true, true, true, true, true, false, false, false] rfl (by exact Wix) rfl rfl (by kernel_rfl) rfl (by kernel_rfl) (by kernel_rfl) (fun _ _ _ h => h) ?_
          refine GA.take 8 #[true, true, true, true, true, true, true, true, false, false] rfl (by exact Ev.fieldAddr rfl) rfl rfl (by kernel_rfl) rfl (by kernel_rfl) (by kernel_rfl) (fun _ _ _ h => h) ?_
          refine GA.branch (rs := [9]) (JOk.live (by exact Wix) (JOk.live (by exact Wlb) JOk.nil)) (by kernel_rfl) (by simp) ?_
          refine GAs.cons rfl ?_ ?_
          · -- FT op 9
            refine GL.store_part rfl rfl Wpk (by first | omega | (simp; done) | (simp; omega)) rfl ?_
            refine GL.nil ?_
            refine GE.any ?_
            refine GA.done (JOk.dead (by kernel_rfl) (JOk.dead (by kernel_rfl) JOk.nil)) (by kernel_rfl) ?_
            refine GE.block ?_
            refine GE.seq ?_
            refine GC.seq ?_
            refine GC.region ?_
            refine GL.v Wlba ?_
            refine GL.store_varN rfl rfl rfl Wpk (by rfl) (by rfl) (by rfl) ?_
            refine GL.nil ?_
            refine GE.seq ?_
            refine GC.ret ?_
            -- returns, path FT
            refine GE.ret_cell (L' := row partE D7 e7 (fp7.set x12.toNat (Part.put fp7[x12.toNat] 1 x33)) :: rdr g A c bs (p7 + 1 + 1 + 1) :: L) (.inl rfl) rfl rfl rfl (BlkRd.of_pick Wpk) (by rfl) Wsb ?_
            exact ⟨D7, e7, _, _, by rw [List.length_set], by simp; omega, by simp; omega, by omega, by omega, rfl⟩
          exact GAs.nil
        exact GAs.nil
      exact GAs.nil
    · -- FF
      refine GC.seq ?_
      refine GC.region ?_
      refine GL.v Weq ?_
      refine GL.v Wag ?_
      refine GL.nil ?_
      refine GE.seq ?_
      refine GC.ifs (fun h3 => ?_) (fun h3 => ?_)
      · -- FFT
        refine GC.region_any #[false, false, false, false, true, true, false, false, true] mixed ?_
        refine GA.take 0 #[false, false, true, true, true, true, false, false, false] rfl (by exact Ev.fieldAddr rfl) rfl rfl (by kernel_rfl) rfl (by kernel_rfl) (by kernel_rfl) (fun _ _ _ h => h) ?_
        refine GA.read 1 #[true, false, true, true, true, true, false, false, false] rfl (by exact Wlb) rfl rfl (by kernel_rfl) rfl (by kernel_rfl) (by kernel_rfl) (fun _ _ _ h => h) ?_
        refine GA.take 2 #[true, true, false, true, true, true, false, false, false] rfl (by exact Ev.move rfl) rfl rfl (by kernel_rfl) rfl (by kernel_rfl) (by kernel_rfl) (fun _ _ _ h => h) ?_
        refine GA.take 3 #[true, true, true, false, true, false, false, false, false] rfl (by exact Ev.move rfl) rfl rfl (by kernel_rfl) rfl (by kernel_rfl) (by kernel_rfl) (fun _ _ _ h => h) ?_
        refine GA.branch (rs := [4]) (JOk.live (by exact Wlb) JOk.nil) (by kernel_rfl) (by simp) ?_
        refine GAs.cons rfl ?_ ?_
        · -- FFT op 4
          refine GL.buildSlice rfl (by first | exact bsInt0 | exact bsInt1 _ | exact bsInt2 _ _ | exact bsInt3 _ _ _ | exact bsInt4 _ _ _ _ | exact bsInt5 _ _ _ _ _ | exact bsInt6 _ _ _ _ _ _ | exact bsInt7 _ _ _ _ _ _ _ | exact bsInt8 _ _ _ _ _ _ _ _ | exact bsInt9 _ _ _ _ _ _ _ _ _ | exact bsInt10 _ _ _ _ _ _ _ _ _ _ | exact bsPart0 | exact bsPart1 ⟨_, _, _, _, _⟩ | exact bsNode1 ⟨_, _, _, _⟩ | exact bsPtr3 _ _ _ | exact bsSl0 | exact bsSl1 ⟨_, _, _⟩) rfl (by decide) rfl ?_; intro g42
          refine GL.nil ?_
          refine GE.any ?_
          refine GA.branch (rs := [5]) (JOk.live (by exact Wlb) JOk.nil) (by kernel_rfl) (by simp) ?_
          refine GAs.cons rfl ?_ ?_
          · -- FFT op 5
            refine GL.front (A := rdr _ _ _ _ _) Wpk ?_
            refine GL.call rfl rfl (one_spec _ _ _ _ _ _ (by assumption) _ (by omega) (by omega) _ _ _ (by first | exact Rd.of_pick Wpk | exact Rd.imp (by assumption) Wim) _ (by rfl) (by first | omega | (simp; done) | (simp; omega)) (by first | omega | (simp; done) | (simp; omega))) ?_
            rintro _ _ ⟨x43, rfl, x43m, rfl⟩
            refine GL.nil ?_
            refine GE.any ?_
            refine GA.read 6 #[true, true, true, true, true, true, false, false, false] rfl (by exact Wix) rfl rfl (by kernel_rfl) rfl (by kernel_rfl) (by kernel_rfl) (fun _ _ _ h => h) ?_
            refine GA.take 7 #[true, true, true, true, true, true, true, false, false] rfl (by exact Ev.fieldAddr rfl) rfl rfl (by kernel_rfl) rfl (by kernel_rfl) (by kernel_rfl) (fun _ _ _ h => h) ?_
            refine GA.branch (rs := [8]) (JOk.live (by exact Wix) (JOk.live (by exact Wlb) JOk.nil)) (by kernel_rfl) (by simp) ?_
            refine GAs.cons rfl ?_ ?_
            · -- FFT op 8
              refine GL.store_part rfl rfl Wpk (by first | omega | (simp; done) | (simp; omega)) rfl ?_
              refine GL.nil ?_
              refine GE.any ?_
              refine GA.done (JOk.dead (by kernel_rfl) (JOk.dead (by kernel_rfl) JOk.nil)) (by kernel_rfl) ?_
              refine GE.block ?_
              refine GE.seq ?_
              refine GC.seq ?_
              refine GC.region ?_
              refine GL.v Wlba ?_
              refine GL.store_varN rfl rfl rfl Wpk (by rfl) (by rfl) (by rfl) ?_
              refine GL.nil ?_
              refine GE.seq ?_
              refine GC.ret ?_
              -- returns, path FFT
              refine GE.ret_cell (L' := row partE D7 e7 (fp7.set x12.toNat (Part.put fp7[x12.toNat] 4 x43)) :: rdr g A c bs (p7 + 1 + 1 + 1) :: L) (.inl rfl) rfl rfl rfl (BlkRd.of_pick Wpk) (by rfl) Wsb ?_
              exact ⟨D7, e7, _, _, by rw [List.length_set], by simp; omega, by simp; omega, by omega, by omega, rfl⟩
            exact GAs.nil
          exact GAs.nil
        exact GAs.nil
      · -- FFF
        refine GC.seq ?_
        refine GC.region ?_
        refine GL.v Weq ?_
        refine GL.v Wag ?_
        refine GL.nil ?_
        refine GE.seq ?_
        refine GC.ifs (fun h4 => ?_) (fun h4 => ?_)
        · -- FFFT
          refine GC.region_any #[false, false, true, true, true, false, true] mixed ?_
          refine GA.take 0 #[false, false, true, true, false, false, false] rfl (by exact Ev.fieldAddr rfl) rfl rfl (by kernel_rfl) rfl (by kernel_rfl) (by kernel_rfl) (fun _ _ _ h => h) ?_
          refine GA.read 1 #[true, false, true, true, false, false, false] rfl (by exact Wlb) rfl rfl (by kernel_rfl) rfl (by kernel_rfl) (by kernel_rfl) (fun _ _ _ h => h) ?_
          refine GA.branch (rs := [2]) (JOk.live (by exact Wlb) JOk.nil) (by kernel_rfl) (by simp) ?_
          refine GAs.cons rfl ?_ ?_
          · -- FFFT op 2
            refine GL.callF rfl rfl (numberPart_spec _ _ _) ?_
            refine GL.nil ?_
            refine GE.any ?_
            refine GA.branch (rs := [3]) (JOk.live (by exact Wlb) JOk.nil) (by kernel_rfl) (by simp) ?_
            refine GAs.cons rfl ?_ ?_
            · -- FFFT op 3
              refine GL.buildSlice rfl (by first | exact bsInt0 | exact bsInt1 _ | exact bsInt2 _ _ | exact bsInt3 _ _ _ | exact bsInt4 _ _ _ _ | exact bsInt5 _ _ _ _ _ | exact bsInt6 _ _ _ _ _ _ | exact bsInt7 _ _ _ _ _ _ _ | exact bsInt8 _ _ _ _ _ _ _ _ | exact bsInt9 _ _ _ _ _ _ _ _ _ | exact bsInt10 _ _ _ _ _ _ _ _ _ _ | exact bsPart0 | exact bsPart1 ⟨_, _, _, _, _⟩ | exact bsNode1 ⟨_, _, _, _⟩ | exact bsPtr3 _ _ _ | exact bsSl0 | exact bsSl1 ⟨_, _, _⟩) rfl (by decide) rfl ?_; intro g51
              refine GL.nil ?_
              refine GE.any ?_
              refine GA.branch (rs := [4]) (JOk.live (by exact Wlb) JOk.nil) (by kernel_rfl) (by simp) ?_
              refine GAs.cons rfl ?_ ?_
              · -- FFFT op 4
                first | (refine GL.append rfl rfl Wpk (by assumption) Wim (by first | rfl | (simp; done) | (simp; omega)) (by first | rfl | (simp; done) | (simp; omega)) (by first | omega | (simp; omega)) (by first | omega | (simp; omega)) rfl ?_; intro A52 c52) | (refine GL.append rfl rfl Wpk (Rd.of_pick Wpk) Imp.refl (by first | rfl | (simp; done) | (simp; omega)) (by first | rfl | (simp; done) | (simp; omega)) (by first | omega | (simp; omega)) (by first | omega | (simp; omega)) rfl ?_; intro A52 c52)
                refine GL.nil ?_
                refine GE.any ?_
                refine GA.take 5 #[true, true, true, true, true, false, false] rfl (by exact Ev.fieldAddr rfl) rfl rfl (by kernel_rfl) rfl (by kernel_rfl) (by kernel_rfl) (fun _ _ _ h => h) ?_
                refine GA.branch (rs := [6]) (JOk.dead (by kernel_rfl) JOk.nil) (by kernel_rfl) (by simp) ?_
                refine GAs.cons rfl ?_ ?_
                · -- FFFT op 6
                  refine GL.store_blk rfl rfl rfl Wpk (Nat.lt_of_lt_of_le (Nat.le_of_ble_eq_true (by rfl)) (Nat.le_refl _)) (by rfl) (by rfl) ?_
                  refine GL.nil ?_
                  refine GE.any ?_
                  refine GA.done (JOk.dead (by kernel_rfl) JOk.nil) (by kernel_rfl) ?_
                  refine GE.block ?_
                  refine GE.seq ?_
                  refine GC.seq ?_
                  refine GC.region ?_
                  refine GL.v Wlba ?_
                  refine GL.store_varN rfl rfl rfl Wpk (by rfl) (by rfl) (by rfl) ?_
                  refine GL.nil ?_
                  refine GE.seq ?_
                  refine GC.ret ?_
                  -- returns, path FFFT
                  refine GE.ret_cell (L' := row partE A52 c52 (fp7 ++ [numPart 1]) :: rdr g A c bs (p7 + 1 + 1) :: L) (.inl rfl) rfl rfl rfl (BlkRd.of_pick Wpk) (by rfl) Wsb ?_
                  exact ⟨_, _, _, _, rfl, by simp, by simp; omega, by omega, by omega, rfl⟩
                exact GAs.nil
              exact GAs.nil
            exact GAs.nil
          exact GAs.nil
        · -- FFFF
          refine GC.skip ?_
          refine GE.block ?_
          refine GE.seq ?_
          refine GC.seq ?_
          refine GC.region ?_
          refine GL.v Wlba ?_
          refine GL.store_varN rfl rfl rfl Wpk (by rfl) (by rfl) (by rfl) ?_
          refine GL.nil ?_
          refine GE.seq ?_
          refine GC.ret ?_
          -- returns, path FFFF
          refine GE.ret_cell (L' := row partE D7 e7 fp7 :: rdr g A c bs (p7 + 1 + 1) :: L) (.inl rfl) rfl rfl rfl (BlkRd.of_pick Wpk) (by rfl) Wsb ?_
          exact ⟨_, _, _, _, rfl, by omega, by omega, by omega, by omega, rfl⟩
end SG
