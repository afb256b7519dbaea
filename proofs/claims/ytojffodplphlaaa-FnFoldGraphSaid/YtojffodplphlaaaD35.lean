/- Contracts: what nodes read, and what changes, of both; drawn arguments. -/
import Derived.Test.YtojffodplphlaaaD24
import Derived.Test.YtojffodplphlaaaD29
import Derived.Test.YtojffodplphlaaaPlain15
namespace SG
open Go Go.RowKit Go.Proofs
set_option linter.unusedVariables false
set_option linter.unusedSimpArgs false
set_option maxRecDepth 100000
theorem iDepsOf_spec (w0 : World) (L : List Asn) (A : Option Addr) (c : Nat) (ms : List NdM) (hG : RdG w0 L A c ms) (B : Option Addr) (d : Nat) (xs : List Int) (hX : Rd w0 L intE B d xs) (hl : ms.length ≤ 1100000) (hx : xs.length ≤ 1100000) :
    Tr Try.prog 22 #[.agg #[.slice A ms.length c], .slice B xs.length d] w0 L (fun v L' => ∃ D e ls, li ls = depsOfL (gr ms) xs ∧ v = .slice D ls.length e ∧ L' = row slE D e ls :: rowsA ls :: L) := by
  refine Tr.enter (args := [.agg #[.slice A ms.length c], .slice B xs.length d]) Try.func22 Try.ntmps22 rfl rfl ?_
  refine GC.seq ?_
  refine GC.region ?_
  refine GL.box_agg rfl rfl ?_; intro g2
  refine GL.v Wag ?_
  refine GL.nil ?_
  refine GE.seq ?_
  refine GC.seq ?_
  refine GC.seq ?_
  refine GC.region ?_
  refine GL.v Wlba ?_
  refine GL.v Wmv ?_
  refine GL.callF rfl rfl (iValidCells_spec _ _ _ _ _ (by first | assumption | exact RdG.imp (by assumption) Wim | exact RdG.of_pick Wpk Wpk) _ _ _ Wrd (by first | omega | exact SizeG.le (by assumption)) Wom) ?_
  refine GL.v Wnt ?_
  refine GL.nil ?_
  refine GE.seq ?_
  refine GC.ifs (fun h1 => ?_) (fun h1 => ?_)
  · -- T
    refine GC.seq ?_
    refine GC.region ?_
    refine GL.v Wag ?_
    refine GL.nil ?_
    refine GE.seq ?_
    refine GC.ret ?_
    refine GE.seq_ret ?_
    -- returns, path T
    refine GE.state (fun _ hs => hs.none_lists) ?_
    refine GE.ret_tmp (L' := row slE none 0 [] :: rowsA [] :: L) (.inl rfl) rfl rfl Wsb ?_
    exact ⟨none, 0, [], by rw [depsOfL_no h1]; rfl, rfl, rfl⟩
  · -- F
    refine GC.skip ?_
    refine GE.seq ?_
    refine GC.seq ?_
    refine GC.region ?_
    refine GL.v Wlba ?_
    refine GL.v Wmv ?_
    refine GL.call rfl rfl (meaning_spec w0 _ A c ms (by first | assumption | exact RdG.imp (by assumption) Wim | exact RdG.of_pick Wpk Wpk) B d xs (hX.imp Wim) h1) ?_
    rintro _ _ ⟨D, E, ls, hls, rfl, rfl⟩
    refine GL.v Wmv ?_
    refine GL.v Wxt ?_
    refine GL.v Wxt ?_
    refine GL.v Wag ?_
    refine GL.v Wag ?_
    refine GL.nil ?_
    refine GE.seq ?_
    refine GC.seq ?_
    refine GC.region ?_
    refine GL.v Wmv ?_
    refine GL.v Wag ?_
    refine GL.nil ?_
    refine GE.seq ?_
    refine GC.ret ?_
    -- returns, path F
    refine GE.ret_tmp (L' := row slE E ms.length ls :: rowsA ls :: L) (.inl rfl) rfl rfl Wsb ?_
    exact ⟨_, _, ls, by rw [depsOfL_yes h1, hls], rfl, rfl⟩
theorem deps_spec (w0 : World) (L : List Asn) (A : Option Addr) (c : Nat) (ms : List NdM) (hG : RdG w0 L A c ms) (xs : List Int) (hC : cellsV (gr ms) xs = true) (B : Option Addr) (d : Nat) (hX : Rd w0 L intE B d (meanL (gr ms) xs)) (i : Nat) (hi : i < ms.length) :
    Tr Try.prog 77 #[.agg #[.slice A ms.length c], .slice B (meanL (gr ms) xs).length d, .int .i64 i] w0 L (fun v L' => ∃ D e, v = .slice D (depAt (gr ms) xs i).length e ∧ L' = row intE D e (depAt (gr ms) xs i) :: L) := by
  have hN := hG.nodes
  have hP := hG.parts i hi
  have hig : i < (gr ms).length := by simpa using hi
  obtain ⟨hV, hK⟩ := cellsV_iff.1 hC
  have hml := meanL_length (gr ms) xs
  rw [gr_length] at hml
  refine Tr.enter (args := [.agg #[.slice A ms.length c], .slice B (meanL (gr ms) xs).length d, .int .i64 i]) Try.func77 Try.ntmps77 rfl rfl ?_
  refine GC.seq ?_
  refine GC.region ?_
  refine GL.box_agg rfl rfl ?_; intro g3
  refine GL.v Wag ?_
  refine GL.nil ?_
  refine GE.seq ?_
  refine GC.seq ?_
  refine GC.seq ?_
  refine GC.region ?_
  refine GL.v Wfa ?_
  refine GL.v Wlb ?_
  refine GL.v Wmv ?_
  refine GL.v Wix ?_
  refine GL.v Wfa ?_
  refine GL.v Wlef ?_
  refine GL.v Weq ?_
  refine GL.nil ?_
  refine GE.seq ?_
  refine GC.ifs (fun h1 => ?_) (fun h1 => ?_)
  · -- T
    refine GC.seq ?_
    refine GC.region ?_
    refine GL.buildSlice rfl (by first | exact bsInt0 | exact bsInt1 _ | exact bsInt2 _ _ | exact bsInt3 _ _ _ | exact bsInt4 _ _ _ _ | exact bsInt5 _ _ _ _ _ | exact bsInt6 _ _ _ _ _ _ | exact bsInt7 _ _ _ _ _ _ _ | exact bsInt8 _ _ _ _ _ _ _ _ | exact bsInt9 _ _ _ _ _ _ _ _ _ | exact bsInt10 _ _ _ _ _ _ _ _ _ _ | exact bsPart0 | exact bsPart1 ⟨_, _, _, _, _⟩ | exact bsNode1 ⟨_, _, _, _⟩ | exact bsPtr3 _ _ _ | exact bsSl0 | exact bsSl1 ⟨_, _, _⟩ | exact bsForm0 | exact bsForm1 ⟨_, _, _⟩ | exact bsAct0 | exact bsBool0 | exact bsAct1 ⟨_, _, _⟩) rfl (by decide) rfl ?_; intro g16
    refine GL.v Wag ?_
    refine GL.nil ?_
    refine GE.seq ?_
    refine GC.ret ?_
    refine GE.seq_ret ?_
    -- returns, path T
    refine GE.ret_tmp (L' := row intE (some ⟨g16, 0, none⟩) 0 [] :: L) (.inl rfl) rfl rfl Wsb ?_
    rw [depAt_cell hig (by rw [gr_get]; exact h1)]
    exact ⟨_, _, rfl, rfl⟩
  · -- F
    have hk0 : (gr ms)[i].kind ≠ 0 := by rw [gr_get]; exact h1
    have hft := fitV_iff.1 (mean_fit hV hK hig hk0)
    rw [gr_get] at hft
    have hf2 : FitV ms[i].parts (meanL (gr ms) xs) := hft
    have hdd := depAt_der (xs := xs) hig hk0
    rw [gr_get] at hdd
    have hd2 : readL ms[i].parts (valF (meanL (gr ms) xs)) = depAt (gr ms) xs i := hdd.symm
    refine GC.skip ?_
    refine GE.seq ?_
    refine GC.seq ?_
    refine GC.region ?_
    refine GL.v Wfa ?_
    refine GL.v Wlb ?_
    refine GL.v Wmv ?_
    refine GL.v Wix ?_
    refine GL.v Wfa ?_
    refine GL.v Wlef1 ?_
    refine GL.v Wmv ?_
    refine GL.call rfl rfl (srun_spec _ _ _ _ _ Wrd _ _ _ Wrd (by assumption)) ?_
    rintro _ _ ⟨B25, d25, rfl, rfl⟩
    rw [hd2]
    refine GL.v Wmv ?_
    refine GL.v Wxt ?_
    refine GL.v Wxt ?_
    refine GL.v Wag ?_
    refine GL.v Wag ?_
    refine GL.nil ?_
    refine GE.seq ?_
    refine GC.seq ?_
    refine GC.region ?_
    refine GL.v Wmv ?_
    refine GL.v Wag ?_
    refine GL.nil ?_
    refine GE.seq ?_
    refine GC.ret ?_
    -- returns, path F
    refine GE.ret_tmp (L' := row intE B25 d25 (depAt (gr ms) xs i) :: L) (.inl rfl) rfl rfl Wsb ?_
    exact ⟨_, _, rfl, rfl⟩
theorem sDepsOf_spec (w0 : World) (L : List Asn) (A : Option Addr) (c : Nat) (ms : List NdM) (hG : RdG w0 L A c ms) (B : Option Addr) (d : Nat) (xs : List Int) (hX : Rd w0 L intE B d xs) (hS : SizeG ms) (hx : xs.length ≤ 1100000) :
    Tr Try.prog 24 #[.agg #[.slice A ms.length c], .slice B xs.length d] w0 L (fun v L' => ∃ D e ls, li ls = depsOfL (gr ms) xs ∧ v = .slice D ls.length e ∧ L' = row slE D e ls :: rowsA ls :: L) := by
  have hN := hG.nodes
  have hSl := hS.1
  refine Tr.enter (args := [.agg #[.slice A ms.length c], .slice B xs.length d]) Try.func24 Try.ntmps24 rfl rfl ?_
  refine GC.seq ?_
  refine GC.region ?_
  refine GL.box_agg rfl rfl ?_; intro g2
  refine GL.v Wag ?_
  refine GL.nil ?_
  refine GE.seq ?_
  refine GC.seq ?_
  refine GC.seq ?_
  refine GC.region ?_
  refine GL.v Wlba ?_
  refine GL.callF rfl rfl (svalidGraph_spec _ _ _ _ _ (by first | assumption | exact RdG.imp (by assumption) Wim | exact RdG.of_pick Wpk Wpk) (by assumption)) ?_
  refine GL.v Wnt ?_
  refine GL.v Wmv ?_
  refine GL.gs (fun h1 => ?_) (fun h1 => ?_)
  · -- t
    refine GL.unwant rfl rfl rfl rfl ?_
    refine GL.unwant rfl rfl rfl rfl ?_
    refine GL.unwant rfl rfl rfl rfl ?_
    refine GL.unwant rfl rfl rfl rfl ?_
    refine GL.v Wpt ?_
    refine GL.nil ?_
    refine GE.seq ?_
    refine GC.cond_true rfl ?_
    refine GC.seq ?_
    refine GC.region ?_
    refine GL.v Wag ?_
    refine GL.nil ?_
    refine GE.seq ?_
    refine GC.ret ?_
    refine GE.seq_ret ?_
    -- returns, path t
    refine GE.state (fun _ hs => hs.none_lists) ?_
    refine GE.ret_tmp (L' := row slE none 0 [] :: rowsA [] :: L) (.inl rfl) rfl rfl Wsb ?_
    exact ⟨none, 0, [], by rw [depsOfL_no (by rw [cellsV, h1]; rfl)]; rfl, rfl, rfl⟩
  · -- f
    refine GL.want rfl rfl ?_
    refine GL.v Wlba ?_
    refine GL.want rfl rfl ?_
    refine GL.v Wmv ?_
    refine GL.want rfl rfl ?_
    refine GL.callF rfl rfl (svalidCells_spec _ _ _ _ _ (by first | assumption | exact RdG.imp (by assumption) Wim | exact RdG.of_pick Wpk Wpk) _ _ _ Wrd Wom) ?_
    refine GL.want rfl rfl ?_
    refine GL.v Wnt ?_
    refine GL.v Wpf ?_
    refine GL.nil ?_
    refine GE.seq ?_
    refine GC.ifs (fun h2 => ?_) (fun h2 => ?_)
    · -- fT
      refine GC.seq ?_
      refine GC.region ?_
      refine GL.v Wag ?_
      refine GL.nil ?_
      refine GE.seq ?_
      refine GC.ret ?_
      refine GE.seq_ret ?_
      -- returns, path fT
      refine GE.state (fun _ hs => hs.none_lists) ?_
      refine GE.ret_tmp (L' := row slE none 0 [] :: rowsA [] :: L) (.inl rfl) rfl rfl Wsb ?_
      exact ⟨none, 0, [], by rw [depsOfL_no (by rw [cellsV, h2]; simp)]; rfl, rfl, rfl⟩
    · -- fF
      have hC : cellsV (gr ms) xs = true := by rw [cellsV, h1, h2]; rfl
      have hl10 := (cellsV_len hC).2
      rw [gr_length] at hl10
      refine GC.skip ?_
      refine GE.seq ?_
      refine GC.seq ?_
      refine GC.region ?_
      refine GL.v Wlba ?_
      refine GL.v Wmv ?_
      refine GL.call rfl rfl (smeaning_spec w0 _ A c ms (by first | assumption | exact RdG.imp (by assumption) Wim | exact RdG.of_pick Wpk Wpk) B d xs (hX.imp Wim) hC) ?_
      rintro _ _ ⟨D, e, rfl, rfl⟩
      refine GL.v Wag ?_
      refine GL.nil ?_
      refine GE.seq ?_
      refine GC.seq ?_
      refine GC.region ?_
      refine GL.buildSlice rfl (by first | exact bsInt0 | exact bsInt1 _ | exact bsInt2 _ _ | exact bsInt3 _ _ _ | exact bsInt4 _ _ _ _ | exact bsInt5 _ _ _ _ _ | exact bsInt6 _ _ _ _ _ _ | exact bsInt7 _ _ _ _ _ _ _ | exact bsInt8 _ _ _ _ _ _ _ _ | exact bsInt9 _ _ _ _ _ _ _ _ _ | exact bsInt10 _ _ _ _ _ _ _ _ _ _ | exact bsPart0 | exact bsPart1 ⟨_, _, _, _, _⟩ | exact bsNode1 ⟨_, _, _, _⟩ | exact bsPtr3 _ _ _ | exact bsSl0 | exact bsSl1 ⟨_, _, _⟩ | exact bsForm0 | exact bsForm1 ⟨_, _, _⟩ | exact bsAct0 | exact bsBool0 | exact bsAct1 ⟨_, _, _⟩) rfl (by decide) rfl ?_; intro g20
      refine GL.v Wag ?_
      refine GL.nil ?_
      refine GE.seq ?_
      refine GC.seq ?_
      refine GC.seq ?_
      refine GC.region ?_
      refine GL.v Wag ?_
      refine GL.nil ?_
      refine GE.seq ?_
      refine GC.block ?_
      -- loop 1: carried slots [6, 7]
      refine GC.rows0 ?_
      refine GC.loopK (α := Nat × Option Addr × Nat × List LiM) (fun x => x.1 ≤ ms.length ∧ x.2.2.2.length = x.1 ∧ li x.2.2.2 = (List.range x.1).map (depAt (gr ms) xs)) (fun x => [(6, .slice x.2.1 x.2.2.2.length x.2.2.1), (7, .int .i64 x.1)]) [(2, _), (5, _)] (fun x => row slE x.2.1 x.2.2.1 x.2.2.2 :: rowsA x.2.2.2 :: row intE D e (meanL (gr ms) xs) :: blk g2 25 [.slice A ms.length c] :: L) (fun x => ms.length - x.1) (0, some ⟨g20, 0, none⟩, 0, []) Wkp Wsb ⟨Nat.zero_le _, rfl, rfl⟩ ?_
      rintro ⟨i, E, f, ls⟩ ⟨hi, hll, hli⟩
      dsimp only at hi hll hli ⊢
      refine GC.seq ?_
      refine GC.seq ?_
      refine GC.region ?_
      refine GL.v Wmv ?_
      refine GL.v Wfa ?_
      refine GL.v Wlb ?_
      refine GL.v Wln ?_
      refine GL.v Wls ?_
      refine GL.nil ?_
      refine GE.seq ?_
      refine GC.ifs (fun h3 => ?_) (fun h3 => ?_)
      · -- fFT
        have hil : i < ms.length := by omega
        have hrs : (List.range (i + 1)).map (depAt (gr ms) xs) = (List.range i).map (depAt (gr ms) xs) ++ [depAt (gr ms) xs i] := by rw [List.range_succ, List.map_append]; rfl
        refine GC.skip ?_
        refine GE.seq ?_
        refine GC.seq ?_
        refine GC.block ?_
        refine GC.region ?_
        refine GL.v Wmv ?_
        refine GL.v Wlba ?_
        refine GL.v Wmv ?_
        refine GL.v Wmv ?_
        refine GL.call rfl rfl (deps_spec w0 _ A c ms (by first | assumption | exact RdG.imp (by assumption) Wim | exact RdG.of_pick Wpk Wpk) xs hC _ _ Wrd i hil) ?_
        rintro _ _ ⟨B32, d32, rfl, rfl⟩
        refine GL.buildSlice rfl (by first | exact bsInt0 | exact bsInt1 _ | exact bsInt2 _ _ | exact bsInt3 _ _ _ | exact bsInt4 _ _ _ _ | exact bsInt5 _ _ _ _ _ | exact bsInt6 _ _ _ _ _ _ | exact bsInt7 _ _ _ _ _ _ _ | exact bsInt8 _ _ _ _ _ _ _ _ | exact bsInt9 _ _ _ _ _ _ _ _ _ | exact bsInt10 _ _ _ _ _ _ _ _ _ _ | exact bsPart0 | exact bsPart1 ⟨_, _, _, _, _⟩ | exact bsNode1 ⟨_, _, _, _⟩ | exact bsPtr3 _ _ _ | exact bsSl0 | exact bsSl1 ⟨_, _, _⟩ | exact bsForm0 | exact bsForm1 ⟨_, _, _⟩ | exact bsAct0 | exact bsBool0 | exact bsAct1 ⟨_, _, _⟩) rfl (by decide) rfl ?_; intro g33
        first | (refine GL.append rfl rfl Wpk (by assumption) Wim (by first | rfl | (simp; done) | (simp; omega)) (by first | rfl | (simp; done) | (simp; omega)) (by first | omega | (simp; omega)) (by first | omega | (simp; omega)) rfl ?_; intro A34 c34) | (refine GL.append rfl rfl Wpk (Rd.of_pick Wpk) Imp.refl (by first | rfl | (simp; done) | (simp; omega)) (by first | rfl | (simp; done) | (simp; omega)) (by first | omega | (simp; omega)) (by first | omega | (simp; omega)) rfl ?_; intro A34 c34)
        refine GL.v Wag ?_
        refine GL.nil ?_
        refine GE.block ?_
        refine GE.seq ?_
        refine GC.region ?_
        refine GL.v Wmv ?_
        refine GL.v Wad ?_
        refine GL.v Wag ?_
        refine GL.nil ?_
        -- round of loop 1, path fFT
        refine GE.rows_snoc ⟨B32, d32, depAt (gr ms) xs i⟩ Wpk Wpk ?_
        refine GE.round (i + 1, _, _, ls ++ [⟨B32, d32, depAt (gr ms) xs i⟩]) ⟨by dsimp only; omega, by simp [hll], ?_⟩ (by dsimp only; omega) Wkp Wsb
        dsimp only
        rw [hrs, ← hli]
        simp [li]
      · -- fFF
        have hie : i = ms.length := by omega
        subst hie
        refine GC.exit ?_
        refine GE.seq_exit ?_
        refine GE.loop_exit ?_
        refine GE.block_exit ?_
        refine GE.seq ?_
        refine GC.seq ?_
        refine GC.region ?_
        refine GL.v Wmv ?_
        refine GL.v Wag ?_
        refine GL.nil ?_
        refine GE.seq ?_
        refine GC.ret ?_
        -- returns, path fFF
        refine GE.ret_tmp (L' := row slE E f ls :: rowsA ls :: L) (.inl rfl) rfl rfl Wsb ?_
        exact ⟨_, _, ls, by rw [depsOfL_yes hC, hli, depsL, gr_length], rfl, rfl⟩
theorem differing_spec (w0 : World) (L : List Asn) (A : Option Addr) (c : Nat) (xs : List Int) (hX : Rd w0 L intE A c xs) (B : Option Addr) (d : Nat) (ys : List Int) (hY : Rd w0 L intE B d ys) (hl : xs.length ≤ 1100000) (he : ys.length = xs.length) :
    Tr Try.prog 89 #[.slice A xs.length c, .slice B ys.length d] w0 L (fun v L' => ∃ D e, v = .slice D (whichL xs.length fun i => decide (at0 xs i ≠ at0 ys i)).length e ∧ L' = row intE D e (whichL xs.length fun i => decide (at0 xs i ≠ at0 ys i)) :: L) := by
  refine Tr.enter (args := [.slice A xs.length c, .slice B ys.length d]) Try.func89 Try.ntmps89 rfl rfl ?_
  obtain ⟨p, hp⟩ : ∃ p : Nat → Bool, p = fun i => decide (at0 xs i ≠ at0 ys i) := ⟨_, rfl⟩
  rw [← hp]
  refine GC.seq ?_
  refine GC.region ?_
  refine GL.v Wag ?_
  refine GL.nil ?_
  refine GE.seq ?_
  refine GC.seq ?_
  refine GC.region ?_
  refine GL.buildSlice rfl (by first | exact bsInt0 | exact bsInt1 _ | exact bsInt2 _ _ | exact bsInt3 _ _ _ | exact bsInt4 _ _ _ _ | exact bsInt5 _ _ _ _ _ | exact bsInt6 _ _ _ _ _ _ | exact bsInt7 _ _ _ _ _ _ _ | exact bsInt8 _ _ _ _ _ _ _ _ | exact bsInt9 _ _ _ _ _ _ _ _ _ | exact bsInt10 _ _ _ _ _ _ _ _ _ _ | exact bsPart0 | exact bsPart1 ⟨_, _, _, _, _⟩ | exact bsNode1 ⟨_, _, _, _⟩ | exact bsPtr3 _ _ _ | exact bsSl0 | exact bsSl1 ⟨_, _, _⟩ | exact bsForm0 | exact bsForm1 ⟨_, _, _⟩ | exact bsAct0 | exact bsBool0 | exact bsAct1 ⟨_, _, _⟩) rfl (by decide) rfl ?_; intro g7
  refine GL.v Wag ?_
  refine GL.nil ?_
  refine GE.seq ?_
  refine GC.seq ?_
  refine GC.seq ?_
  refine GC.region ?_
  refine GL.v Wag ?_
  refine GL.nil ?_
  refine GE.seq ?_
  refine GC.block ?_
  -- loop 1: carried slots [5, 6]
  refine GC.loopK (α := Nat × Option Addr × Nat) (fun x => x.1 ≤ xs.length) (fun x => [(5, .slice x.2.1 (whichL x.1 p).length x.2.2), (6, .int .i64 x.1)]) [(0, _), (1, _)] (fun x => row intE x.2.1 x.2.2 (whichL x.1 p) :: L) (fun x => xs.length - x.1) (0, some ⟨g7, 0, none⟩, 0) Wkp Wsb (Nat.zero_le _) ?_
  rintro ⟨i, D, e⟩ hi
  dsimp only at hi ⊢
  have hwl := whichL_length i p
  refine GC.seq ?_
  refine GC.seq ?_
  refine GC.region ?_
  refine GL.v Wmv ?_
  refine GL.v Wmv ?_
  refine GL.v Wln ?_
  refine GL.v Wls ?_
  refine GL.nil ?_
  refine GE.seq ?_
  refine GC.ifs (fun h1 => ?_) (fun h1 => ?_)
  · -- T
    have hil : i < xs.length := by omega
    have hpi : p i = decide (xs[i] ≠ ys[i]'(by omega)) := by rw [hp, at0_eq, at0_eq]
    refine GC.skip ?_
    refine GE.seq ?_
    refine GC.seq ?_
    refine GC.block ?_
    refine GC.seq ?_
    refine GC.region_quiet mixed (by kernel_rfl) ?_
    refine GL.v Wmv ?_
    refine GL.v Wmv ?_
    refine GL.v Wix ?_
    refine GL.v Wle ?_
    refine GL.v Wmv ?_
    refine GL.v Wmv ?_
    refine GL.v Wix ?_
    refine GL.v Wle ?_
    refine GL.v Wnq ?_
    refine GL.nil ?_
    refine GE.seq ?_
    refine GC.ifs (fun h2 => ?_) (fun h2 => ?_)
    · -- TT
      refine GC.region ?_
      refine GL.v Wmv ?_
      refine GL.v Wmv ?_
      refine GL.buildSlice rfl (by first | exact bsInt0 | exact bsInt1 _ | exact bsInt2 _ _ | exact bsInt3 _ _ _ | exact bsInt4 _ _ _ _ | exact bsInt5 _ _ _ _ _ | exact bsInt6 _ _ _ _ _ _ | exact bsInt7 _ _ _ _ _ _ _ | exact bsInt8 _ _ _ _ _ _ _ _ | exact bsInt9 _ _ _ _ _ _ _ _ _ | exact bsInt10 _ _ _ _ _ _ _ _ _ _ | exact bsPart0 | exact bsPart1 ⟨_, _, _, _, _⟩ | exact bsNode1 ⟨_, _, _, _⟩ | exact bsPtr3 _ _ _ | exact bsSl0 | exact bsSl1 ⟨_, _, _⟩ | exact bsForm0 | exact bsForm1 ⟨_, _, _⟩ | exact bsAct0 | exact bsBool0 | exact bsAct1 ⟨_, _, _⟩) rfl (by decide) rfl ?_; intro g25
      first | (refine GL.append rfl rfl Wpk (by assumption) Wim (by first | rfl | (simp; done) | (simp; omega)) (by first | rfl | (simp; done) | (simp; omega)) (by first | omega | (simp; omega)) (by first | omega | (simp; omega)) rfl ?_; intro A26 c26) | (refine GL.append rfl rfl Wpk (Rd.of_pick Wpk) Imp.refl (by first | rfl | (simp; done) | (simp; omega)) (by first | rfl | (simp; done) | (simp; omega)) (by first | omega | (simp; omega)) (by first | omega | (simp; omega)) rfl ?_; intro A26 c26)
      refine GL.v Wag ?_
      refine GL.nil ?_
      refine GE.block ?_
      refine GE.seq ?_
      refine GC.region ?_
      refine GL.v Wmv ?_
      refine GL.v Wad ?_
      refine GL.v Wag ?_
      refine GL.nil ?_
      -- round of loop 1, path TT
      rw [whichL_yes (by rw [hpi]; exact decide_eq_true h2)]
      refine GE.round (i + 1, _, _) (by dsimp only; omega) (by dsimp only; omega) Wkp Wsb
    · -- TF
      refine GC.skip ?_
      refine GE.block ?_
      refine GE.seq ?_
      refine GC.region ?_
      refine GL.v Wmv ?_
      refine GL.v Wad ?_
      refine GL.v Wag ?_
      refine GL.nil ?_
      -- round of loop 1, path TF
      rw [whichL_no (n := i) (p := p) (by rw [hpi]; exact decide_eq_false (fun hn => hn h2))]
      refine GE.round (i + 1, D, e) (by dsimp only; omega) (by dsimp only; omega) Wkp Wsb
  · -- F
    have hie : i = xs.length := by omega
    subst hie
    refine GC.exit ?_
    refine GE.seq_exit ?_
    refine GE.loop_exit ?_
    refine GE.block_exit ?_
    refine GE.seq ?_
    refine GC.seq ?_
    refine GC.region ?_
    refine GL.v Wmv ?_
    refine GL.v Wag ?_
    refine GL.nil ?_
    refine GE.seq ?_
    refine GC.ret ?_
    -- returns, path F
    refine GE.ret_tmp (L' := row intE D e (whichL xs.length p) :: L) (.inl rfl) rfl rfl Wsb ?_
    exact ⟨_, _, rfl, rfl⟩
theorem differ_mean (gs : List Nd) (xs ys : List Int) : (whichL (meanL gs xs).length fun i => decide (at0 (meanL gs xs) i ≠ at0 (meanL gs ys) i)) = diffL gs xs ys := by
  rw [meanL_length]
  exact whichL_congr fun k hk => by rw [meanL_at hk, meanL_at hk]
theorem sChangedBy_spec (w0 : World) (L : List Asn) (A : Option Addr) (c : Nat) (ms : List NdM) (hG : RdG w0 L A c ms) (B : Option Addr) (d : Nat) (xs : List Int) (hX : Rd w0 L intE B d xs) (D : Option Addr) (e : Nat) (ys : List Int) (hY : Rd w0 L intE D e ys) (hS : SizeG ms) (hx : xs.length ≤ 1100000) (hy : ys.length ≤ 1100000) :
    Tr Try.prog 39 #[.agg #[.slice A ms.length c], .slice B xs.length d, .slice D ys.length e] w0 L (fun v L' => ∃ E f, v = .slice E (diffOfL (gr ms) xs ys).length f ∧ L' = row intE E f (diffOfL (gr ms) xs ys) :: L) := by
  have hSl := hS.1
  refine Tr.enter (args := [.agg #[.slice A ms.length c], .slice B xs.length d, .slice D ys.length e]) Try.func39 Try.ntmps39 rfl rfl ?_
  refine GC.seq ?_
  refine GC.region ?_
  refine GL.box_agg rfl rfl ?_; intro g3
  refine GL.v Wag ?_
  refine GL.nil ?_
  refine GE.seq ?_
  refine GC.seq ?_
  refine GC.seq ?_
  refine GC.region ?_
  refine GL.v Wlba ?_
  refine GL.callF rfl rfl (svalidGraph_spec _ _ _ _ _ (by first | assumption | exact RdG.imp (by assumption) Wim | exact RdG.of_pick Wpk Wpk) (by assumption)) ?_
  refine GL.v Wnt ?_
  refine GL.v Wmv ?_
  refine GL.gs (fun h1 => ?_) (fun h1 => ?_)
  · -- t
    refine GL.unwant rfl rfl rfl rfl ?_
    refine GL.unwant rfl rfl rfl rfl ?_
    refine GL.unwant rfl rfl rfl rfl ?_
    refine GL.unwant rfl rfl rfl rfl ?_
    refine GL.v Wpt ?_
    refine GL.v Wmv ?_
    refine GL.unwant rfl rfl rfl rfl ?_
    refine GL.unwant rfl rfl rfl rfl ?_
    refine GL.unwant rfl rfl rfl rfl ?_
    refine GL.unwant rfl rfl rfl rfl ?_
    refine GL.v Wpt ?_
    refine GL.nil ?_
    refine GE.seq ?_
    refine GC.cond_true rfl ?_
    refine GC.seq ?_
    refine GC.region ?_
    refine GL.v Wag ?_
    refine GL.nil ?_
    refine GE.seq ?_
    refine GC.ret ?_
    refine GE.seq_ret ?_
    -- returns, path t
    refine GE.state (fun _ hs => hs.empty intE none) ?_
    refine GE.ret_tmp (L' := row intE none 0 [] :: L) (.inl rfl) rfl rfl Wsb ?_
    rw [diffOfL_no (.inl (by rw [cellsV, h1]; rfl))]
    exact ⟨none, 0, rfl, rfl⟩
  · -- f
    refine GL.want rfl rfl ?_
    refine GL.v Wlba ?_
    refine GL.want rfl rfl ?_
    refine GL.v Wmv ?_
    refine GL.want rfl rfl ?_
    refine GL.callF rfl rfl (svalidCells_spec _ _ _ _ _ (by first | assumption | exact RdG.imp (by assumption) Wim | exact RdG.of_pick Wpk Wpk) _ _ _ Wrd Wom) ?_
    refine GL.want rfl rfl ?_
    refine GL.v Wnt ?_
    refine GL.v Wpf ?_
    refine GL.v Wmv ?_
    refine GL.gs (fun h2 => ?_) (fun h2 => ?_)
    · -- ft
      refine GL.unwant rfl rfl rfl rfl ?_
      refine GL.unwant rfl rfl rfl rfl ?_
      refine GL.unwant rfl rfl rfl rfl ?_
      refine GL.unwant rfl rfl rfl rfl ?_
      refine GL.v Wpt ?_
      refine GL.nil ?_
      refine GE.seq ?_
      refine GC.cond_true rfl ?_
      refine GC.seq ?_
      refine GC.region ?_
      refine GL.v Wag ?_
      refine GL.nil ?_
      refine GE.seq ?_
      refine GC.ret ?_
      refine GE.seq_ret ?_
      -- returns, path ft
      refine GE.state (fun _ hs => hs.empty intE none) ?_
      refine GE.ret_tmp (L' := row intE none 0 [] :: L) (.inl rfl) rfl rfl Wsb ?_
      rw [diffOfL_no (.inl (by rw [cellsV, h2]; simp))]
      exact ⟨none, 0, rfl, rfl⟩
    · -- ff
      refine GL.want rfl rfl ?_
      refine GL.v Wlba ?_
      refine GL.want rfl rfl ?_
      refine GL.v Wmv ?_
      refine GL.want rfl rfl ?_
      refine GL.callF rfl rfl (svalidCells_spec _ _ _ _ _ (by first | assumption | exact RdG.imp (by assumption) Wim | exact RdG.of_pick Wpk Wpk) _ _ _ Wrd Wom) ?_
      refine GL.want rfl rfl ?_
      refine GL.v Wnt ?_
      refine GL.v Wpf ?_
      refine GL.nil ?_
      refine GE.seq ?_
      refine GC.ifs (fun h3 => ?_) (fun h3 => ?_)
      · -- ffT
        refine GC.seq ?_
        refine GC.region ?_
        refine GL.v Wag ?_
        refine GL.nil ?_
        refine GE.seq ?_
        refine GC.ret ?_
        refine GE.seq_ret ?_
        -- returns, path ffT
        refine GE.state (fun _ hs => hs.empty intE none) ?_
        refine GE.ret_tmp (L' := row intE none 0 [] :: L) (.inl rfl) rfl rfl Wsb ?_
        rw [diffOfL_no (.inr (by rw [cellsV, h3]; simp))]
        exact ⟨none, 0, rfl, rfl⟩
      · -- ffF
        have hC1 : cellsV (gr ms) xs = true := by rw [cellsV, h1, h2]; rfl
        have hC2 : cellsV (gr ms) ys = true := by rw [cellsV, h1, h3]; rfl
        have hl10 := (cellsV_len hC1).2
        have hm1 := meanL_length (gr ms) xs
        have hm2 := meanL_length (gr ms) ys
        refine GC.skip ?_
        refine GE.seq ?_
        refine GC.seq ?_
        refine GC.region_any #[false, false, true, false, false, true, true, false] mixed ?_
        refine GA.read 0 #[false, true, false, true, true, false, false, false] rfl (by exact Wlba) rfl rfl (by kernel_rfl) rfl (by kernel_rfl) (by kernel_rfl) (fun _ _ _ h => h) ?_
        refine GA.take 1 #[true, false, false, true, true, false, false, false] rfl (by exact Ev.move rfl) rfl rfl (by kernel_rfl) rfl (by kernel_rfl) (by kernel_rfl) (fun _ _ _ h => h) ?_
        refine GA.read 3 #[true, true, true, false, true, false, false, false] rfl (by exact Wlba) rfl rfl (by kernel_rfl) rfl (by kernel_rfl) (by kernel_rfl) (fun _ _ _ h => h) ?_
        refine GA.take 4 #[true, true, true, true, false, false, false, false] rfl (by exact Ev.move rfl) rfl rfl (by kernel_rfl) rfl (by kernel_rfl) (by kernel_rfl) (fun _ _ _ h => h) ?_
        refine GA.branch (rs := [2]) (JOk.live (by exact Wlba) (JOk.live (by exact Wlba) JOk.nil)) (by kernel_rfl) (by simp) ?_
        refine GAs.cons rfl ?_ ?_
        · -- ffF op 2
          refine GL.call rfl rfl (smeaning_spec w0 _ A c ms (by first | assumption | exact RdG.imp (by assumption) Wim | exact RdG.of_pick Wpk Wpk) B d xs (hX.imp Wim) hC1) ?_
          rintro _ _ ⟨D1, e1, rfl, rfl⟩
          refine GL.nil ?_
          refine GE.any ?_
          refine GA.branch (rs := [5]) (JOk.live (by exact Wlba) (JOk.dead (by kernel_rfl) JOk.nil)) (by kernel_rfl) (by simp) ?_
          refine GAs.cons rfl ?_ ?_
          · -- ffF op 5
            refine GL.call rfl rfl (smeaning_spec w0 _ A c ms (by first | assumption | exact RdG.imp (by assumption) Wim | exact RdG.of_pick Wpk Wpk) D e ys (hY.imp Wim) hC2) ?_
            rintro _ _ ⟨D2, e2, rfl, rfl⟩
            refine GL.nil ?_
            refine GE.any ?_
            refine GA.branch (rs := [6]) (JOk.dead (by kernel_rfl) (JOk.dead (by kernel_rfl) JOk.nil)) (by kernel_rfl) (by simp) ?_
            refine GAs.cons rfl ?_ ?_
            · -- ffF op 6
              refine GL.call rfl rfl (differing_spec w0 _ _ _ (meanL (gr ms) xs) Wrd _ _ (meanL (gr ms) ys) Wrd (by omega) (by omega)) ?_
              rintro _ _ ⟨E, f, rfl, rfl⟩
              rw [differ_mean]
              refine GL.nil ?_
              refine GE.any ?_
              refine GA.take 7 #[true, true, true, true, true, true, true, false] rfl (by exact Ev.assign rfl) rfl rfl (by kernel_rfl) rfl (by kernel_rfl) (by kernel_rfl) (fun _ _ _ h => h) ?_
              refine GA.done (JOk.dead (by kernel_rfl) (JOk.dead (by kernel_rfl) JOk.nil)) (by kernel_rfl) ?_
              refine GE.seq ?_
              refine GC.ret ?_
              -- returns, path ffF
              refine GE.ret_tmp (L' := row intE E f (diffL (gr ms) xs ys) :: L) (.inl rfl) rfl rfl Wsb ?_
              rw [diffOfL_yes hC1 hC2]
              exact ⟨_, _, rfl, rfl⟩
            exact GAs.nil
          exact GAs.nil
        exact GAs.nil
theorem sizeLs_deps {ls : List LiM} {gs : List Nd} {xs : List Int} (h : li ls = depsOfL gs xs) : SizeLs ls := by
  have hs := depsOfL_small (gs := gs) (xs := xs)
  rw [← h] at hs
  refine ⟨by have := hs.1; rw [li_length] at this; omega, fun i hi => ?_⟩
  have h1 : (li ls)[i]'(by simpa using hi) = ls[i].xs := li_get _
  have := hs.2 _ (List.getElem_mem (l := li ls) (n := i) (by simpa using hi))
  rw [h1] at this
  omega
end SG
