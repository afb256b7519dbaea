/- The law FnExactCommitCells holds for every input. -/
import Derived.Test.YtpkooglnapjcnaaD9
import Derived.Test.YtpkooglnapjcnaaD23
import Derived.Test.YtpkooglnapjcnaaD29
import Derived.Test.YtpkooglnapjcnaaD31
import Derived.Test.YtpkooglnapjcnaaRows
namespace SG
open Go Go.RowKit Go.Proofs Go.Proofs.Ytpkooglnapjcnaa Go.ChangeShapes Go.WideShapes Go.Deep
set_option linter.unusedVariables false
set_option linter.unusedSimpArgs false
set_option maxRecDepth 100000
theorem FnExactCommitCells_spec (w0 : World) (L : List Asn) (A : Option Addr) (c : Nat) (ms : List NdM) (hG : RdL w0 L A c ms) (B : Option Addr) (d : Nat) (ls : List LiM) (hH : RdLs w0 L B d ls) (k0 : Int) (E : Option Addr) (e : Nat) (ys : List Int) (hY : Rd w0 L intE E e ys) :
    Tr Try.prog 14 #[.agg #[.slice A ms.length c], .agg #[.slice B ls.length d, .int .i64 k0], .slice E ys.length e] w0 L (fun v L' => v = .bool true ∧ L' = L) := by
  refine Tr.rd_cap hY fun hd1 hd2 => ?_
  refine Tr.enter (args := [.agg #[.slice A ms.length c], .agg #[.slice B ls.length d, .int .i64 k0], .slice E ys.length e]) Try.func14 Try.ntmps14 rfl rfl ?_
  refine GC.seq ?_
  refine GC.region ?_
  refine GL.box_agg rfl rfl ?_; intro g3
  refine GL.box_agg rfl rfl ?_; intro g4
  refine GL.v Wag ?_
  refine GL.nil ?_
  refine GE.seq ?_
  refine GC.seq ?_
  refine GC.seq ?_
  refine GC.region ?_
  refine GL.v Wmv ?_
  refine GL.v Wln ?_
  refine GL.v Wgt ?_
  refine GL.nil ?_
  refine GE.seq ?_
  refine GC.ifs (fun h1 => ?_) (fun h1 => ?_)
  · -- T
    refine GC.seq ?_
    refine GC.region ?_
    refine GL.v Wag ?_
    refine GL.nil ?_
    refine GE.seq ?_
    refine GC.ret ?_
    refine GE.seq_ret ?_
    -- returns, path T
    refine GE.ret_tmp (L' := L) (.inl rfl) rfl rfl Wsb ?_
    exact ⟨rfl, rfl⟩
  · -- F
    refine GC.skip ?_
    refine GE.seq ?_
    refine GC.seq ?_
    refine GC.region ?_
    refine GL.v Wag ?_
    refine GL.nil ?_
    refine GE.seq ?_
    refine GC.seq ?_
    refine GC.region ?_
    refine GL.v Wlba ?_
    refine GL.v Wmv ?_
    refine GL.call rfl rfl (szGraph_spec _ _ _ _ _ (RdL.imp (by assumption) Wim) _ (by omega) (by omega)) ?_
    rintro _ _ ⟨x25, rfl, x25a, x25b, x25c, e25⟩
    rw [e25]; clear e25
    refine GL.v Wag ?_
    refine GL.nil ?_
    refine GE.seq ?_
    refine GC.seq ?_
    refine GC.seq ?_
    refine GC.region ?_
    refine GL.v Wmv ?_
    refine GL.v Wls ?_
    refine GL.nil ?_
    refine GE.seq ?_
    refine GC.ifs (fun h2 => ?_) (fun h2 => ?_)
    · -- FT
      refine GC.seq ?_
      refine GC.region ?_
      refine GL.v Wag ?_
      refine GL.nil ?_
      refine GE.seq ?_
      refine GC.ret ?_
      refine GE.seq_ret ?_
      -- returns, path FT
      refine GE.ret_tmp (L' := L) (.inl rfl) rfl rfl Wsb ?_
      exact ⟨rfl, rfl⟩
    · -- FF
      have hS := x25c (by omega)
      have hSl := hS.1
      refine GC.skip ?_
      refine GE.seq ?_
      refine GC.seq ?_
      refine GC.region ?_
      refine GL.v Wlba ?_
      refine GL.v Wmv ?_
      refine GL.call rfl rfl (szHistory_spec _ _ _ _ _ (RdLs.imp (by assumption) Wim) _ _ (by omega) (by omega)) ?_
      rintro _ _ ⟨x30, rfl, x30a, x30b, x30c, e30⟩
      rw [e30]; clear e30
      refine GL.v Wag ?_
      refine GL.nil ?_
      refine GE.seq ?_
      refine GC.seq ?_
      refine GC.seq ?_
      refine GC.region ?_
      refine GL.v Wmv ?_
      refine GL.v Wls ?_
      refine GL.nil ?_
      refine GE.seq ?_
      refine GC.ifs (fun h3 => ?_) (fun h3 => ?_)
      · -- FFT
        refine GC.seq ?_
        refine GC.region ?_
        refine GL.v Wag ?_
        refine GL.nil ?_
        refine GE.seq ?_
        refine GC.ret ?_
        refine GE.seq_ret ?_
        -- returns, path FFT
        refine GE.ret_tmp (L' := L) (.inl rfl) rfl rfl Wsb ?_
        exact ⟨rfl, rfl⟩
      · -- FFF
        have hZ := x30c (by omega)
        refine GC.skip ?_
        refine GE.seq ?_
        -- mid 10: carried slots [8, 9]
        refine GC.seq_mid (β := Nat × Option Addr × Nat × List LiM) (fun b => li b.2.2.2 = comL (gr ms) (li ls) k0 ys) (fun b => [(8, .pointer (some ⟨b.1, 0, none⟩)), (9, .bool (comB (gr ms) (li ls) k0 ys))]) [(2, _), (3, _), (4, _)] (fun b => row slE b.2.1 b.2.2.1 b.2.2.2 :: rowsA b.2.2.2 :: blk b.1 72 [.slice b.2.1 b.2.2.2.length b.2.2.1, .int .i64 (comA (gr ms) (li ls) k0 ys)] :: blk g3 36 [.slice A ms.length c] :: blk g4 76 [.slice B ls.length d, .int .i64 k0] :: L) Wkp ?_ ?_
        ·
          refine GC.region_any #[false, true, false, true, false, true, true, false, false, false, true, true, false] mixed ?_
          refine GA.read 0 #[false, false, true, false, true, false, false, false, false, false, true, false, false] rfl (by exact Wlba) rfl rfl (by kernel_rfl) rfl (by kernel_rfl) (by kernel_rfl) (fun _ _ _ h => h) ?_
          refine GA.read 2 #[true, true, false, false, true, false, false, false, false, false, true, false, false] rfl (by exact Wlba) rfl rfl (by kernel_rfl) rfl (by kernel_rfl) (by kernel_rfl) (fun _ _ _ h => h) ?_
          refine GA.take 4 #[true, true, true, true, false, false, false, false, false, false, true, false, false] rfl (by exact Ev.move rfl) rfl rfl (by kernel_rfl) rfl (by kernel_rfl) (by kernel_rfl) (fun _ _ _ h => h) ?_
          refine GA.branch (rs := [1, 10]) (JOk.live (by exact Wlba) (JOk.live (by exact Wlba) JOk.nil)) (by kernel_rfl) (by simp) ?_
          refine GAs.cons rfl ?_ ?_
          · -- FFF.1 op 1
            refine GL.call rfl rfl (toGraph_spec _ _ _ _ _ (RdL.imp (by assumption) Wim) (by assumption)) ?_
            rintro _ _ ⟨B35, ns35, hgr35, rfl, rfl⟩
            have hS35 := SizeG.gr (by assumption) hgr35
            refine GL.nil ?_
            refine GE.any ?_
            refine GA.branch (rs := [3, 10]) (JOk.live (by exact Wlba) (JOk.dead (by kernel_rfl) JOk.nil)) (by kernel_rfl) (by simp) ?_
            refine GAs.cons rfl ?_ ?_
            · -- FFF.1.3 op 3
              refine GL.call rfl rfl (toHistory_spec _ _ _ _ _ (RdLs.imp (by assumption) Wim) _ (by assumption)) ?_
              rintro _ _ ⟨B37, ls37, hli37, rfl, rfl⟩
              have hZ37 := SizeLs.li (by assumption) hli37
              refine GL.nil ?_
              refine GE.any ?_
              refine GA.branch (rs := [5, 10]) (JOk.dead (by kernel_rfl) (JOk.dead (by kernel_rfl) JOk.nil)) (by kernel_rfl) (by simp) ?_
              refine GAs.cons rfl ?_ ?_
              · -- FFF.1.3.5 op 5
                refine GL.call rfl rfl (toIntS_spec _ _ _ _ _ Wrd Wom) ?_
                rintro _ _ ⟨B39, rfl, rfl⟩
                refine GL.nil ?_
                refine GE.any ?_
                refine GA.branch (rs := [6, 10]) (JOk.dead (by kernel_rfl) (JOk.dead (by kernel_rfl) JOk.nil)) (by kernel_rfl) (by simp) ?_
                refine GAs.cons rfl ?_ ?_
                · -- FFF.1.3.5.6 op 6
                  refine GL.call rfl rfl (sCommitCells_spec _ _ _ _ _ (by first | assumption | exact RdG.imp (by assumption) Wim | exact RdG.of_pick Wpk Wpk) _ _ _ (by first | assumption | exact RdLs.imp (by assumption) Wim | exact RdLs.of_pick Wpk Wpk) _ _ _ _ Wrd (by assumption) (by assumption) Wom) ?_
                  rintro _ _ ⟨B40, d40, ls40, hli40, rfl, rfl⟩
                  rw [hgr35, hli37] at hli40 ⊢
                  refine GL.nil ?_
                  refine GE.any ?_
                  refine GA.take 7 #[true, true, true, true, true, true, true, false, false, false, true, false, false] rfl (by exact Ev.move rfl) rfl rfl (by kernel_rfl) rfl (by kernel_rfl) (by kernel_rfl) (fun _ _ _ h => h) ?_
                  refine GA.take 8 #[true, true, true, true, true, true, true, true, false, true, true, false, false] rfl (by exact Ev.extract rfl rfl) rfl rfl (by kernel_rfl) rfl (by kernel_rfl) (by kernel_rfl) (fun _ _ _ h => h) ?_
                  refine GA.take 9 #[true, true, true, true, true, true, true, true, true, false, true, true, false] rfl (by exact Ev.extract rfl rfl) rfl rfl (by kernel_rfl) rfl (by kernel_rfl) (by kernel_rfl) (fun _ _ _ h => h) ?_
                  refine GA.branch (rs := [10]) (JOk.dead (by kernel_rfl) (JOk.dead (by kernel_rfl) JOk.nil)) (by kernel_rfl) (by simp) ?_
                  refine GAs.cons rfl ?_ ?_
                  · -- FFF.1.3.5.6 op 10
                    refine GL.alloc rfl ?_; intro g8
                    refine GL.nil ?_
                    refine GE.any ?_
                    refine GA.branch (rs := [11]) (JOk.dead (by kernel_rfl) (JOk.dead (by kernel_rfl) JOk.nil)) (by kernel_rfl) (by simp) ?_
                    refine GAs.cons rfl ?_ ?_
                    · -- FFF.1.3.5.6 op 11
                      refine GL.store_varN rfl rfl rfl Wpk (by rfl) (by rfl) (by rfl) ?_
                      refine GL.nil ?_
                      refine GE.any ?_
                      refine GA.take 12 #[true, true, true, true, true, true, true, true, true, true, true, true, false] rfl (by exact Ev.assign rfl) rfl rfl (by kernel_rfl) rfl (by kernel_rfl) (by kernel_rfl) (fun _ _ _ h => h) ?_
                      refine GA.done (JOk.dead (by kernel_rfl) (JOk.dead (by kernel_rfl) JOk.nil)) (by kernel_rfl) ?_
                      refine GE.mid ((g8, B40, d40, ls40) : Nat × Option Addr × Nat × List LiM) hli40 Wkp Wsb
                    exact GAs.nil
                  exact GAs.nil
                refine GAs.cons rfl ?_ ?_
                · -- FFF.1.3.5.10 op 10
                  refine GL.alloc rfl ?_; intro g8
                  refine GL.nil ?_
                  refine GE.any ?_
                  refine GA.branch (rs := [6]) (JOk.dead (by kernel_rfl) (JOk.dead (by kernel_rfl) JOk.nil)) (by kernel_rfl) (by simp) ?_
                  refine GAs.cons rfl ?_ ?_
                  · -- FFF.1.3.5.10 op 6
                    refine GL.call rfl rfl (sCommitCells_spec _ _ _ _ _ (by first | assumption | exact RdG.imp (by assumption) Wim | exact RdG.of_pick Wpk Wpk) _ _ _ (by first | assumption | exact RdLs.imp (by assumption) Wim | exact RdLs.of_pick Wpk Wpk) _ _ _ _ Wrd (by assumption) (by assumption) Wom) ?_
                    rintro _ _ ⟨B40, d40, ls40, hli40, rfl, rfl⟩
                    rw [hgr35, hli37] at hli40 ⊢
                    refine GL.nil ?_
                    refine GE.any ?_
                    refine GA.take 7 #[true, true, true, true, true, true, true, false, false, false, true, false, false] rfl (by exact Ev.move rfl) rfl rfl (by kernel_rfl) rfl (by kernel_rfl) (by kernel_rfl) (fun _ _ _ h => h) ?_
                    refine GA.take 8 #[true, true, true, true, true, true, true, true, false, true, true, false, false] rfl (by exact Ev.extract rfl rfl) rfl rfl (by kernel_rfl) rfl (by kernel_rfl) (by kernel_rfl) (fun _ _ _ h => h) ?_
                    refine GA.take 9 #[true, true, true, true, true, true, true, true, true, false, true, true, false] rfl (by exact Ev.extract rfl rfl) rfl rfl (by kernel_rfl) rfl (by kernel_rfl) (by kernel_rfl) (fun _ _ _ h => h) ?_
                    refine GA.branch (rs := [11]) (JOk.dead (by kernel_rfl) (JOk.dead (by kernel_rfl) JOk.nil)) (by kernel_rfl) (by simp) ?_
                    refine GAs.cons rfl ?_ ?_
                    · -- FFF.1.3.5.10 op 11
                      refine GL.store_varN rfl rfl rfl Wpk (by rfl) (by rfl) (by rfl) ?_
                      refine GL.nil ?_
                      refine GE.any ?_
                      refine GA.take 12 #[true, true, true, true, true, true, true, true, true, true, true, true, false] rfl (by exact Ev.assign rfl) rfl rfl (by kernel_rfl) rfl (by kernel_rfl) (by kernel_rfl) (fun _ _ _ h => h) ?_
                      refine GA.done (JOk.dead (by kernel_rfl) (JOk.dead (by kernel_rfl) JOk.nil)) (by kernel_rfl) ?_
                      refine GE.mid ((g8, B40, d40, ls40) : Nat × Option Addr × Nat × List LiM) hli40 Wkp Wsb
                    exact GAs.nil
                  exact GAs.nil
                exact GAs.nil
              refine GAs.cons rfl ?_ ?_
              · -- FFF.1.3.10 op 10
                refine GL.alloc rfl ?_; intro g8
                refine GL.nil ?_
                refine GE.any ?_
                refine GA.branch (rs := [5]) (JOk.dead (by kernel_rfl) (JOk.dead (by kernel_rfl) JOk.nil)) (by kernel_rfl) (by simp) ?_
                refine GAs.cons rfl ?_ ?_
                · -- FFF.1.3.10 op 5
                  refine GL.call rfl rfl (toIntS_spec _ _ _ _ _ Wrd Wom) ?_
                  rintro _ _ ⟨B39, rfl, rfl⟩
                  refine GL.nil ?_
                  refine GE.any ?_
                  refine GA.branch (rs := [6]) (JOk.dead (by kernel_rfl) (JOk.dead (by kernel_rfl) JOk.nil)) (by kernel_rfl) (by simp) ?_
                  refine GAs.cons rfl ?_ ?_
                  · -- FFF.1.3.10 op 6
                    refine GL.call rfl rfl (sCommitCells_spec _ _ _ _ _ (by first | assumption | exact RdG.imp (by assumption) Wim | exact RdG.of_pick Wpk Wpk) _ _ _ (by first | assumption | exact RdLs.imp (by assumption) Wim | exact RdLs.of_pick Wpk Wpk) _ _ _ _ Wrd (by assumption) (by assumption) Wom) ?_
                    rintro _ _ ⟨B40, d40, ls40, hli40, rfl, rfl⟩
                    rw [hgr35, hli37] at hli40 ⊢
                    refine GL.nil ?_
                    refine GE.any ?_
                    refine GA.take 7 #[true, true, true, true, true, true, true, false, false, false, true, false, false] rfl (by exact Ev.move rfl) rfl rfl (by kernel_rfl) rfl (by kernel_rfl) (by kernel_rfl) (fun _ _ _ h => h) ?_
                    refine GA.take 8 #[true, true, true, true, true, true, true, true, false, true, true, false, false] rfl (by exact Ev.extract rfl rfl) rfl rfl (by kernel_rfl) rfl (by kernel_rfl) (by kernel_rfl) (fun _ _ _ h => h) ?_
                    refine GA.take 9 #[true, true, true, true, true, true, true, true, true, false, true, true, false] rfl (by exact Ev.extract rfl rfl) rfl rfl (by kernel_rfl) rfl (by kernel_rfl) (by kernel_rfl) (fun _ _ _ h => h) ?_
                    refine GA.branch (rs := [11]) (JOk.dead (by kernel_rfl) (JOk.dead (by kernel_rfl) JOk.nil)) (by kernel_rfl) (by simp) ?_
                    refine GAs.cons rfl ?_ ?_
                    · -- FFF.1.3.10 op 11
                      refine GL.store_varN rfl rfl rfl Wpk (by rfl) (by rfl) (by rfl) ?_
                      refine GL.nil ?_
                      refine GE.any ?_
                      refine GA.take 12 #[true, true, true, true, true, true, true, true, true, true, true, true, false] rfl (by exact Ev.assign rfl) rfl rfl (by kernel_rfl) rfl (by kernel_rfl) (by kernel_rfl) (fun _ _ _ h => h) ?_
                      refine GA.done (JOk.dead (by kernel_rfl) (JOk.dead (by kernel_rfl) JOk.nil)) (by kernel_rfl) ?_
                      refine GE.mid ((g8, B40, d40, ls40) : Nat × Option Addr × Nat × List LiM) hli40 Wkp Wsb
                    exact GAs.nil
                  exact GAs.nil
                exact GAs.nil
              exact GAs.nil
            refine GAs.cons rfl ?_ ?_
            · -- FFF.1.10 op 10
              refine GL.alloc rfl ?_; intro g8
              refine GL.nil ?_
              refine GE.any ?_
              refine GA.branch (rs := [3]) (JOk.live (by exact Wlba) (JOk.dead (by kernel_rfl) JOk.nil)) (by kernel_rfl) (by simp) ?_
              refine GAs.cons rfl ?_ ?_
              · -- FFF.1.10 op 3
                refine GL.call rfl rfl (toHistory_spec _ _ _ _ _ (RdLs.imp (by assumption) Wim) _ (by assumption)) ?_
                rintro _ _ ⟨B37, ls37, hli37, rfl, rfl⟩
                have hZ37 := SizeLs.li (by assumption) hli37
                refine GL.nil ?_
                refine GE.any ?_
                refine GA.branch (rs := [5]) (JOk.dead (by kernel_rfl) (JOk.dead (by kernel_rfl) JOk.nil)) (by kernel_rfl) (by simp) ?_
                refine GAs.cons rfl ?_ ?_
                · -- FFF.1.10 op 5
                  refine GL.call rfl rfl (toIntS_spec _ _ _ _ _ Wrd Wom) ?_
                  rintro _ _ ⟨B39, rfl, rfl⟩
                  refine GL.nil ?_
                  refine GE.any ?_
                  refine GA.branch (rs := [6]) (JOk.dead (by kernel_rfl) (JOk.dead (by kernel_rfl) JOk.nil)) (by kernel_rfl) (by simp) ?_
                  refine GAs.cons rfl ?_ ?_
                  · -- FFF.1.10 op 6
                    refine GL.call rfl rfl (sCommitCells_spec _ _ _ _ _ (by first | assumption | exact RdG.imp (by assumption) Wim | exact RdG.of_pick Wpk Wpk) _ _ _ (by first | assumption | exact RdLs.imp (by assumption) Wim | exact RdLs.of_pick Wpk Wpk) _ _ _ _ Wrd (by assumption) (by assumption) Wom) ?_
                    rintro _ _ ⟨B40, d40, ls40, hli40, rfl, rfl⟩
                    rw [hgr35, hli37] at hli40 ⊢
                    refine GL.nil ?_
                    refine GE.any ?_
                    refine GA.take 7 #[true, true, true, true, true, true, true, false, false, false, true, false, false] rfl (by exact Ev.move rfl) rfl rfl (by kernel_rfl) rfl (by kernel_rfl) (by kernel_rfl) (fun _ _ _ h => h) ?_
                    refine GA.take 8 #[true, true, true, true, true, true, true, true, false, true, true, false, false] rfl (by exact Ev.extract rfl rfl) rfl rfl (by kernel_rfl) rfl (by kernel_rfl) (by kernel_rfl) (fun _ _ _ h => h) ?_
                    refine GA.take 9 #[true, true, true, true, true, true, true, true, true, false, true, true, false] rfl (by exact Ev.extract rfl rfl) rfl rfl (by kernel_rfl) rfl (by kernel_rfl) (by kernel_rfl) (fun _ _ _ h => h) ?_
                    refine GA.branch (rs := [11]) (JOk.dead (by kernel_rfl) (JOk.dead (by kernel_rfl) JOk.nil)) (by kernel_rfl) (by simp) ?_
                    refine GAs.cons rfl ?_ ?_
                    · -- FFF.1.10 op 11
                      refine GL.store_varN rfl rfl rfl Wpk (by rfl) (by rfl) (by rfl) ?_
                      refine GL.nil ?_
                      refine GE.any ?_
                      refine GA.take 12 #[true, true, true, true, true, true, true, true, true, true, true, true, false] rfl (by exact Ev.assign rfl) rfl rfl (by kernel_rfl) rfl (by kernel_rfl) (by kernel_rfl) (fun _ _ _ h => h) ?_
                      refine GA.done (JOk.dead (by kernel_rfl) (JOk.dead (by kernel_rfl) JOk.nil)) (by kernel_rfl) ?_
                      refine GE.mid ((g8, B40, d40, ls40) : Nat × Option Addr × Nat × List LiM) hli40 Wkp Wsb
                    exact GAs.nil
                  exact GAs.nil
                exact GAs.nil
              exact GAs.nil
            exact GAs.nil
          refine GAs.cons rfl ?_ ?_
          · -- FFF.10 op 10
            refine GL.alloc rfl ?_; intro g8
            refine GL.nil ?_
            refine GE.any ?_
            refine GA.branch (rs := [1]) (JOk.live (by exact Wlba) (JOk.live (by exact Wlba) JOk.nil)) (by kernel_rfl) (by simp) ?_
            refine GAs.cons rfl ?_ ?_
            · -- FFF.10 op 1
              refine GL.call rfl rfl (toGraph_spec _ _ _ _ _ (RdL.imp (by assumption) Wim) (by assumption)) ?_
              rintro _ _ ⟨B35, ns35, hgr35, rfl, rfl⟩
              have hS35 := SizeG.gr (by assumption) hgr35
              refine GL.nil ?_
              refine GE.any ?_
              refine GA.branch (rs := [3]) (JOk.live (by exact Wlba) (JOk.dead (by kernel_rfl) JOk.nil)) (by kernel_rfl) (by simp) ?_
              refine GAs.cons rfl ?_ ?_
              · -- FFF.10 op 3
                refine GL.call rfl rfl (toHistory_spec _ _ _ _ _ (RdLs.imp (by assumption) Wim) _ (by assumption)) ?_
                rintro _ _ ⟨B37, ls37, hli37, rfl, rfl⟩
                have hZ37 := SizeLs.li (by assumption) hli37
                refine GL.nil ?_
                refine GE.any ?_
                refine GA.branch (rs := [5]) (JOk.dead (by kernel_rfl) (JOk.dead (by kernel_rfl) JOk.nil)) (by kernel_rfl) (by simp) ?_
                refine GAs.cons rfl ?_ ?_
                · -- FFF.10 op 5
                  refine GL.call rfl rfl (toIntS_spec _ _ _ _ _ Wrd Wom) ?_
                  rintro _ _ ⟨B39, rfl, rfl⟩
                  refine GL.nil ?_
                  refine GE.any ?_
                  refine GA.branch (rs := [6]) (JOk.dead (by kernel_rfl) (JOk.dead (by kernel_rfl) JOk.nil)) (by kernel_rfl) (by simp) ?_
                  refine GAs.cons rfl ?_ ?_
                  · -- FFF.10 op 6
                    refine GL.call rfl rfl (sCommitCells_spec _ _ _ _ _ (by first | assumption | exact RdG.imp (by assumption) Wim | exact RdG.of_pick Wpk Wpk) _ _ _ (by first | assumption | exact RdLs.imp (by assumption) Wim | exact RdLs.of_pick Wpk Wpk) _ _ _ _ Wrd (by assumption) (by assumption) Wom) ?_
                    rintro _ _ ⟨B40, d40, ls40, hli40, rfl, rfl⟩
                    rw [hgr35, hli37] at hli40 ⊢
                    refine GL.nil ?_
                    refine GE.any ?_
                    refine GA.take 7 #[true, true, true, true, true, true, true, false, false, false, true, false, false] rfl (by exact Ev.move rfl) rfl rfl (by kernel_rfl) rfl (by kernel_rfl) (by kernel_rfl) (fun _ _ _ h => h) ?_
                    refine GA.take 8 #[true, true, true, true, true, true, true, true, false, true, true, false, false] rfl (by exact Ev.extract rfl rfl) rfl rfl (by kernel_rfl) rfl (by kernel_rfl) (by kernel_rfl) (fun _ _ _ h => h) ?_
                    refine GA.take 9 #[true, true, true, true, true, true, true, true, true, false, true, true, false] rfl (by exact Ev.extract rfl rfl) rfl rfl (by kernel_rfl) rfl (by kernel_rfl) (by kernel_rfl) (fun _ _ _ h => h) ?_
                    refine GA.branch (rs := [11]) (JOk.dead (by kernel_rfl) (JOk.dead (by kernel_rfl) JOk.nil)) (by kernel_rfl) (by simp) ?_
                    refine GAs.cons rfl ?_ ?_
                    · -- FFF.10 op 11
                      refine GL.store_varN rfl rfl rfl Wpk (by rfl) (by rfl) (by rfl) ?_
                      refine GL.nil ?_
                      refine GE.any ?_
                      refine GA.take 12 #[true, true, true, true, true, true, true, true, true, true, true, true, false] rfl (by exact Ev.assign rfl) rfl rfl (by kernel_rfl) rfl (by kernel_rfl) (by kernel_rfl) (fun _ _ _ h => h) ?_
                      refine GA.done (JOk.dead (by kernel_rfl) (JOk.dead (by kernel_rfl) JOk.nil)) (by kernel_rfl) ?_
                      refine GE.mid ((g8, B40, d40, ls40) : Nat × Option Addr × Nat × List LiM) hli40 Wkp Wsb
                    exact GAs.nil
                  exact GAs.nil
                exact GAs.nil
              exact GAs.nil
            exact GAs.nil
          exact GAs.nil
        ·
          rintro ⟨g8, B40, d40, ls40⟩ hli40
          dsimp only at hli40 ⊢
          have hZ40 := SizeLs.com hli40 hZ (by omega)
          refine GC.seq ?_
          refine GC.region ?_
          refine GL.v Wlba ?_
          refine GL.call rfl rfl (toGraph_spec _ _ _ _ _ (RdL.imp (by assumption) Wim) (by assumption)) ?_
          rintro _ _ ⟨B44, ns44, hgr44, rfl, rfl⟩
          have hS44 := SizeG.gr (by assumption) hgr44
          refine GL.alloc rfl ?_; intro g10
          refine GL.store_varN rfl rfl rfl Wpk (by rfl) (by rfl) (by rfl) ?_
          refine GL.nil ?_
          refine GE.seq ?_
          refine GC.seq ?_
          refine GC.region ?_
          refine GL.v Wlba ?_
          refine GL.call rfl rfl (toHistory_spec _ _ _ _ _ (RdLs.imp (by assumption) Wim) _ (by assumption)) ?_
          rintro _ _ ⟨B46, ls46, hli46, rfl, rfl⟩
          have hZ46 := SizeLs.li (by assumption) hli46
          refine GL.alloc rfl ?_; intro g11
          refine GL.store_varN rfl rfl rfl Wpk (by rfl) (by rfl) (by rfl) ?_
          refine GL.nil ?_
          refine GE.seq ?_
          refine GC.seq ?_
          refine GC.region ?_
          refine GL.v Wmv ?_
          refine GL.call rfl rfl (toIntS_spec _ _ _ _ _ Wrd Wom) ?_
          rintro _ _ ⟨B48, rfl, rfl⟩
          refine GL.v Wag ?_
          refine GL.nil ?_
          refine GE.seq ?_
          refine GC.seq ?_
          refine GC.region ?_
          refine GL.v Wlba ?_
          refine GL.v Wlba ?_
          refine GL.v Wmv ?_
          refine GL.call rfl rfl (iCommitCells_spec _ _ _ _ _ (by first | assumption | exact RdG.imp (by assumption) Wim | exact RdG.of_pick Wpk Wpk) _ _ _ (by first | assumption | exact RdLs.imp (by assumption) Wim | exact RdLs.of_pick Wpk Wpk) _ _ _ _ Wrd (by first | omega | exact SizeG.le (by assumption)) (by assumption) Wom) ?_
          rintro _ _ ⟨B53, d53, ls53, hli53, rfl, rfl⟩
          rw [hgr44, hli46] at hli53 ⊢
          have hZ53 := SizeLs.com hli53 hZ (by omega)
          refine GL.v Wmv ?_
          refine GL.v Wxt ?_
          refine GL.v Wxt ?_
          refine GL.alloc rfl ?_; intro g13
          refine GL.store_varN rfl rfl rfl Wpk (by rfl) (by rfl) (by rfl) ?_
          refine GL.v Wag ?_
          refine GL.nil ?_
          refine GE.seq ?_
          refine GC.seq ?_
          refine GC.seq ?_
          refine GC.region ?_
          refine GL.v Wlba ?_
          refine GL.v Wlba ?_
          refine GL.callF rfl rfl (eqHistory_spec _ _ _ _ _ (by first | assumption | exact RdLs.imp (by assumption) Wim | exact RdLs.of_pick Wpk Wpk) _ _ _ _ (by first | assumption | exact RdLs.imp (by assumption) Wim | exact RdLs.of_pick Wpk Wpk) _ (by assumption)) ?_
          refine GL.v Wnt ?_
          refine GL.v Wmv ?_
          refine GL.gs (fun h4 => ?_) (fun h4 => ?_)
          · -- FFFt
            exact absurd ⟨hli53.trans hli40.symm, rfl⟩ h4
          · -- FFFf
            refine GL.want rfl rfl ?_
            refine GL.v Wmv ?_
            refine GL.want rfl rfl ?_
            refine GL.v Wmv ?_
            refine GL.want rfl rfl ?_
            refine GL.v (by exact EvP.r (Ev.neq_bool rfl rfl)) ?_
            refine GL.v Wpf ?_
            refine GL.nil ?_
            refine GE.seq ?_
            refine GC.ifs (fun h5 => ?_) (fun h5 => ?_)
            · -- FFFfT
              exact absurd rfl h5
            · -- FFFfF
              refine GC.skip ?_
              refine GE.seq ?_
              refine GC.seq ?_
              refine GC.seq ?_
              refine GC.region_any #[false, false, true, true, false] mixed ?_
              refine GA.read 0 #[false, true, true, false, false] rfl (by exact Wlba) rfl rfl (by kernel_rfl) rfl (by kernel_rfl) (by kernel_rfl) (fun _ _ _ h => h) ?_
              refine GA.read 1 #[true, false, false, false, false] rfl (by exact Wlba) rfl rfl (by kernel_rfl) rfl (by kernel_rfl) (by kernel_rfl) (fun _ _ _ h => h) ?_
              refine GA.branch (rs := [2]) (JOk.live (by exact Wlba) (JOk.live (by exact Wlba) JOk.nil)) (by kernel_rfl) (by simp) ?_
              refine GAs.cons rfl ?_ ?_
              · -- FFFfF op 2
                refine GL.call rfl rfl (toGraph_spec _ _ _ _ _ (RdL.imp (by assumption) Wim) (by assumption)) ?_
                rintro _ _ ⟨B67, ns67, hgr67, rfl, rfl⟩
                have hS67 := SizeG.gr (by assumption) hgr67
                refine GL.nil ?_
                refine GE.any ?_
                refine GA.branch (rs := [3]) (JOk.dead (by kernel_rfl) (JOk.live (by exact Wlba) JOk.nil)) (by kernel_rfl) (by simp) ?_
                refine GAs.cons rfl ?_ ?_
                · -- FFFfF op 3
                  refine GL.callF rfl rfl (eqGraph_spec _ _ _ _ _ (by first | assumption | exact RdG.imp (by assumption) Wim | exact RdG.of_pick Wpk Wpk) _ _ _ (by first | assumption | exact RdG.imp (by assumption) Wim | exact RdG.of_pick Wpk Wpk) (by assumption)) ?_
                  refine GL.nil ?_
                  refine GE.any ?_
                  refine GA.take 4 #[true, true, true, true, false] rfl (by exact Ev.not rfl) rfl rfl (by kernel_rfl) rfl (by kernel_rfl) (by kernel_rfl) (fun _ _ _ h => h) ?_
                  refine GA.done (JOk.dead (by kernel_rfl) (JOk.dead (by kernel_rfl) JOk.nil)) (by kernel_rfl) ?_
                  refine GE.seq ?_
                  refine GC.ifs (fun h6 => ?_) (fun h6 => ?_)
                  · -- FFFfFT
                    exact absurd (hgr44.trans hgr67.symm) h6
                  · -- FFFfFF
                    refine GC.skip ?_
                    refine GE.seq ?_
                    refine GC.seq ?_
                    refine GC.seq ?_
                    refine GC.region_any #[false, false, true, true, false] mixed ?_
                    refine GA.read 0 #[false, true, true, false, false] rfl (by exact Wlba) rfl rfl (by kernel_rfl) rfl (by kernel_rfl) (by kernel_rfl) (fun _ _ _ h => h) ?_
                    refine GA.read 1 #[true, false, false, false, false] rfl (by exact Wlba) rfl rfl (by kernel_rfl) rfl (by kernel_rfl) (by kernel_rfl) (fun _ _ _ h => h) ?_
                    refine GA.branch (rs := [2]) (JOk.live (by exact Wlba) (JOk.live (by exact Wlba) JOk.nil)) (by kernel_rfl) (by simp) ?_
                    refine GAs.cons rfl ?_ ?_
                    · -- FFFfFF op 2
                      refine GL.call rfl rfl (toHistory_spec _ _ _ _ _ (RdLs.imp (by assumption) Wim) _ (by assumption)) ?_
                      rintro _ _ ⟨B72, ls72, hli72, rfl, rfl⟩
                      have hZ72 := SizeLs.li (by assumption) hli72
                      refine GL.nil ?_
                      refine GE.any ?_
                      refine GA.branch (rs := [3]) (JOk.dead (by kernel_rfl) (JOk.live (by exact Wlba) JOk.nil)) (by kernel_rfl) (by simp) ?_
                      refine GAs.cons rfl ?_ ?_
                      · -- FFFfFF op 3
                        refine GL.callF rfl rfl (eqHistory_spec _ _ _ _ _ (by first | assumption | exact RdLs.imp (by assumption) Wim | exact RdLs.of_pick Wpk Wpk) _ _ _ _ (by first | assumption | exact RdLs.imp (by assumption) Wim | exact RdLs.of_pick Wpk Wpk) _ (by assumption)) ?_
                        refine GL.nil ?_
                        refine GE.any ?_
                        refine GA.take 4 #[true, true, true, true, false] rfl (by exact Ev.not rfl) rfl rfl (by kernel_rfl) rfl (by kernel_rfl) (by kernel_rfl) (fun _ _ _ h => h) ?_
                        refine GA.done (JOk.dead (by kernel_rfl) (JOk.dead (by kernel_rfl) JOk.nil)) (by kernel_rfl) ?_
                        refine GE.seq ?_
                        refine GC.ifs (fun h7 => ?_) (fun h7 => ?_)
                        · -- FFFfFFT
                          exact absurd ⟨hli46.trans hli72.symm, rfl⟩ h7
                        · -- FFFfFFF
                          refine GC.skip ?_
                          refine GE.seq ?_
                          refine GC.seq ?_
                          refine GC.seq ?_
                          refine GC.region ?_
                          refine GL.v Wmv ?_
                          refine GL.v Wmv ?_
                          refine GL.call rfl rfl (toIntS_spec _ _ _ _ _ Wrd Wom) ?_
                          rintro _ _ ⟨B77, rfl, rfl⟩
                          refine GL.callF rfl rfl (eqIntS_spec _ _ _ _ _ Wrd _ _ _ Wrd Wom) ?_
                          refine GL.v Wnt ?_
                          refine GL.nil ?_
                          refine GE.seq ?_
                          refine GC.ifs (fun h8 => ?_) (fun h8 => ?_)
                          · -- FFFfFFFT
                            exact absurd rfl h8
                          · -- FFFfFFFF
                            refine GC.skip ?_
                            refine GE.seq ?_
                            refine GC.seq ?_
                            refine GC.region ?_
                            refine GL.v Wag ?_
                            refine GL.nil ?_
                            refine GE.seq ?_
                            refine GC.seq ?_
                            refine GC.region ?_
                            refine GL.v Wlba ?_
                            refine GL.v Wmv ?_
                            refine GL.front (A := partsA ns44) Wpk ?_
                            refine GL.front (A := row nodeE B44 ns44.length ns44) Wpk ?_
                            refine GL.call rfl rfl (markGraph_spec w0 _ B44 ns44.length ns44 hS44 _ (by decide) (by decide)) ?_
                            rintro _ _ ⟨k82, ns82, qs82, rfl, k82a, k82b, rfl⟩
                            refine GL.v Wag ?_
                            refine GL.nil ?_
                            refine GE.seq ?_
                            refine GC.seq ?_
                            refine GC.region ?_
                            refine GL.v Wlba ?_
                            refine GL.v Wmv ?_
                            refine GL.front (A := rowsA ls46) Wpk ?_
                            refine GL.front (A := row slE B46 _ ls46) Wpk ?_
                            refine GL.call rfl rfl (markHistory_spec w0 _ B46 _ ls46 _ hZ46 _ Wom Wom) ?_
                            rintro _ _ ⟨rfl, rfl⟩
                            have hkb85 := kAt_bound (k := k82) hZ46 ls46.length (Nat.le_refl _)
                            have hzl85 := hZ46.1
                            refine GL.v Wag ?_
                            refine GL.nil ?_
                            refine GE.seq ?_
                            refine GC.seq ?_
                            refine GC.region ?_
                            refine GL.v Wmv ?_
                            refine GL.v Wmv ?_
                            refine GL.callP rfl rfl Wpk (markIntS_spec _ _ _ _ _ _ Wom Wom Wom) ?_
                            rintro _ _ ⟨rfl, rfl⟩
                            refine GL.v Wag ?_
                            refine GL.nil ?_
                            refine GE.seq ?_
                            refine GC.seq ?_
                            refine GC.seq ?_
                            refine GC.region ?_
                            refine GL.v Wmv ?_
                            refine GL.v Wls ?_
                            refine GL.v Wmv ?_
                            refine GL.gs (fun h9 => ?_) (fun h9 => ?_)
                            · -- FFFfFFFFt
                              omega
                            · -- FFFfFFFFf
                              refine GL.want rfl rfl ?_
                              refine GL.v Wlba ?_
                              refine GL.want rfl rfl ?_
                              refine GL.v Wlba ?_
                              refine GL.want rfl rfl ?_
                              refine GL.callF rfl rfl (eqHistory_spec _ _ _ _ _ (by first | assumption | exact RdLs.imp (by assumption) Wim | exact RdLs.of_pick Wpk Wpk) _ _ _ _ (by first | assumption | exact RdLs.imp (by assumption) Wim | exact RdLs.of_pick Wpk Wpk) _ (by assumption)) ?_
                              refine GL.want rfl rfl ?_
                              refine GL.v Wnt ?_
                              refine GL.v Wpf ?_
                              refine GL.v Wmv ?_
                              refine GL.gs (fun h10 => ?_) (fun h10 => ?_)
                              · -- FFFfFFFFft
                                exact absurd ⟨hli53.trans hli40.symm, rfl⟩ h10
                              · -- FFFfFFFFff
                                refine GL.want rfl rfl ?_
                                refine GL.v Wmv ?_
                                refine GL.want rfl rfl ?_
                                refine GL.v Wmv ?_
                                refine GL.want rfl rfl ?_
                                refine GL.v (by exact EvP.r (Ev.neq_bool rfl rfl)) ?_
                                refine GL.v Wpf ?_
                                refine GL.nil ?_
                                refine GE.seq ?_
                                refine GC.ifs (fun h11 => ?_) (fun h11 => ?_)
                                · -- FFFfFFFFffT
                                  exact absurd rfl h11
                                · -- FFFfFFFFffF
                                  refine GC.skip ?_
                                  refine GE.seq ?_
                                  refine GC.seq ?_
                                  refine GC.region ?_
                                  refine GL.v Wag ?_
                                  refine GL.nil ?_
                                  refine GE.seq ?_
                                  refine GC.seq ?_
                                  refine GC.region ?_
                                  refine GL.v Wlba ?_
                                  refine GL.v Wmv ?_
                                  refine GL.front (A := rowsA ls53) Wpk ?_
                                  refine GL.front (A := row slE B53 _ ls53) Wpk ?_
                                  refine GL.call rfl rfl (markHistory_spec w0 _ B53 _ ls53 _ hZ53 _ Wom Wom) ?_
                                  rintro _ _ ⟨rfl, rfl⟩
                                  have hkb104 := kAt_bound (k := 1) hZ53 ls53.length (Nat.le_refl _)
                                  have hzl104 := hZ53.1
                                  refine GL.v Wag ?_
                                  refine GL.nil ?_
                                  refine GE.seq ?_
                                  refine GC.seq ?_
                                  refine GC.region ?_
                                  refine GL.v Wag ?_
                                  refine GL.nil ?_
                                  refine GE.seq ?_
                                  refine GC.seq ?_
                                  refine GC.region ?_
                                  refine GL.v Wlba ?_
                                  refine GL.v Wmv ?_
                                  refine GL.callF rfl rfl (heldHistory_spec _ _ _ _ _ ls53 _ _ (RdLs.of_pick Wpk Wpk) hZ53 rfl (by decide) (by decide)) ?_
                                  refine GL.v Wag ?_
                                  refine GL.nil ?_
                                  refine GE.seq ?_
                                  refine GC.seq ?_
                                  refine GC.seq ?_
                                  refine GC.region ?_
                                  refine GL.v Wmv ?_
                                  refine GL.v Wls ?_
                                  refine GL.nil ?_
                                  refine GE.seq ?_
                                  refine GC.ifs (fun h12 => ?_) (fun h12 => ?_)
                                  · -- FFFfFFFFffFT
                                    omega
                                  · -- FFFfFFFFffFF
                                    refine GC.skip ?_
                                    refine GE.seq ?_
                                    refine GC.seq ?_
                                    refine GC.seq ?_
                                    refine GC.region ?_
                                    refine GL.v Wmv ?_
                                    refine GL.v Wmv ?_
                                    refine GL.v Wnq ?_
                                    refine GL.nil ?_
                                    refine GE.seq ?_
                                    refine GC.ifs (fun h13 => ?_) (fun h13 => ?_)
                                    · -- FFFfFFFFffFFT
                                      exact absurd rfl h13
                                    · -- FFFfFFFFffFFF
                                      refine GC.skip ?_
                                      refine GE.seq ?_
                                      -- mid 37: carried slots [18, 19]
                                      refine GC.seq_mid (β := Nat × Option Addr × Nat × List LiM) (fun b => li b.2.2.2 = comL (gr ms) (li ls) k0 ys) (fun b => [(18, .pointer (some ⟨b.1, 0, none⟩)), (19, .bool (comB (gr ms) (li ls) k0 ys))]) [(2, _), (3, _), (4, _), (8, _), (9, _), (13, _), (16, _)] (fun b => row slE b.2.1 b.2.2.1 b.2.2.2 :: rowsA b.2.2.2 :: blk b.1 72 [.slice b.2.1 b.2.2.2.length b.2.2.1, .int .i64 (comA (gr ms) (li ls) k0 ys)] :: row slE B53 d53 (markLs 1 ls53) :: rowsA (markLs 1 ls53) :: row slE B40 d40 ls40 :: rowsA ls40 :: blk g8 72 [.slice B40 ls40.length d40, .int .i64 (comA (gr ms) (li ls) k0 ys)] :: blk g13 72 [.slice B53 ls53.length d53, .int .i64 (comA (gr ms) (li ls) k0 ys)] :: L) Wkp ?_ ?_
                                      ·
                                        refine GC.region_any #[false, true, false, true, false, true, true, false, false, false, true, true, false] mixed ?_
                                        refine GA.read 0 #[false, false, true, false, true, false, false, false, false, false, true, false, false] rfl (by exact Wlba) rfl rfl (by kernel_rfl) rfl (by kernel_rfl) (by kernel_rfl) (fun _ _ _ h => h) ?_
                                        refine GA.read 2 #[true, true, false, false, true, false, false, false, false, false, true, false, false] rfl (by exact Wlba) rfl rfl (by kernel_rfl) rfl (by kernel_rfl) (by kernel_rfl) (fun _ _ _ h => h) ?_
                                        refine GA.take 4 #[true, true, true, true, false, false, false, false, false, false, true, false, false] rfl (by exact Ev.move rfl) rfl rfl (by kernel_rfl) rfl (by kernel_rfl) (by kernel_rfl) (fun _ _ _ h => h) ?_
                                        refine GA.branch (rs := [1, 10]) (JOk.live (by exact Wlba) (JOk.live (by exact Wlba) JOk.nil)) (by kernel_rfl) (by simp) ?_
                                        refine GAs.cons rfl ?_ ?_
                                        · -- FFFfFFFFffFFF.1 op 1
                                          refine GL.call rfl rfl (toGraph_spec _ _ _ _ _ (RdL.imp (by assumption) Wim) (by assumption)) ?_
                                          rintro _ _ ⟨B115, ns115, hgr115, rfl, rfl⟩
                                          have hS115 := SizeG.gr (by assumption) hgr115
                                          refine GL.nil ?_
                                          refine GE.any ?_
                                          refine GA.branch (rs := [3, 10]) (JOk.live (by exact Wlba) (JOk.dead (by kernel_rfl) JOk.nil)) (by kernel_rfl) (by simp) ?_
                                          refine GAs.cons rfl ?_ ?_
                                          · -- FFFfFFFFffFFF.1.3 op 3
                                            refine GL.call rfl rfl (toHistory_spec _ _ _ _ _ (RdLs.imp (by assumption) Wim) _ (by assumption)) ?_
                                            rintro _ _ ⟨B117, ls117, hli117, rfl, rfl⟩
                                            have hZ117 := SizeLs.li (by assumption) hli117
                                            refine GL.nil ?_
                                            refine GE.any ?_
                                            refine GA.branch (rs := [5, 10]) (JOk.dead (by kernel_rfl) (JOk.dead (by kernel_rfl) JOk.nil)) (by kernel_rfl) (by simp) ?_
                                            refine GAs.cons rfl ?_ ?_
                                            · -- FFFfFFFFffFFF.1.3.5 op 5
                                              refine GL.call rfl rfl (toIntS_spec _ _ _ _ _ Wrd Wom) ?_
                                              rintro _ _ ⟨B119, rfl, rfl⟩
                                              refine GL.nil ?_
                                              refine GE.any ?_
                                              refine GA.branch (rs := [6, 10]) (JOk.dead (by kernel_rfl) (JOk.dead (by kernel_rfl) JOk.nil)) (by kernel_rfl) (by simp) ?_
                                              refine GAs.cons rfl ?_ ?_
                                              · -- FFFfFFFFffFFF.1.3.5.6 op 6
                                                refine GL.call rfl rfl (iCommitCells_spec _ _ _ _ _ (by first | assumption | exact RdG.imp (by assumption) Wim | exact RdG.of_pick Wpk Wpk) _ _ _ (by first | assumption | exact RdLs.imp (by assumption) Wim | exact RdLs.of_pick Wpk Wpk) _ _ _ _ Wrd (by first | omega | exact SizeG.le (by assumption)) (by assumption) Wom) ?_
                                                rintro _ _ ⟨B120, d120, ls120, hli120, rfl, rfl⟩
                                                rw [hgr115, hli117] at hli120 ⊢
                                                refine GL.nil ?_
                                                refine GE.any ?_
                                                refine GA.take 7 #[true, true, true, true, true, true, true, false, false, false, true, false, false] rfl (by exact Ev.move rfl) rfl rfl (by kernel_rfl) rfl (by kernel_rfl) (by kernel_rfl) (fun _ _ _ h => h) ?_
                                                refine GA.take 8 #[true, true, true, true, true, true, true, true, false, true, true, false, false] rfl (by exact Ev.extract rfl rfl) rfl rfl (by kernel_rfl) rfl (by kernel_rfl) (by kernel_rfl) (fun _ _ _ h => h) ?_
                                                refine GA.take 9 #[true, true, true, true, true, true, true, true, true, false, true, true, false] rfl (by exact Ev.extract rfl rfl) rfl rfl (by kernel_rfl) rfl (by kernel_rfl) (by kernel_rfl) (fun _ _ _ h => h) ?_
                                                refine GA.branch (rs := [10]) (JOk.dead (by kernel_rfl) (JOk.dead (by kernel_rfl) JOk.nil)) (by kernel_rfl) (by simp) ?_
                                                refine GAs.cons rfl ?_ ?_
                                                · -- FFFfFFFFffFFF.1.3.5.6 op 10
                                                  refine GL.alloc rfl ?_; intro g18
                                                  refine GL.nil ?_
                                                  refine GE.any ?_
                                                  refine GA.branch (rs := [11]) (JOk.dead (by kernel_rfl) (JOk.dead (by kernel_rfl) JOk.nil)) (by kernel_rfl) (by simp) ?_
                                                  refine GAs.cons rfl ?_ ?_
                                                  · -- FFFfFFFFffFFF.1.3.5.6 op 11
                                                    refine GL.store_varN rfl rfl rfl Wpk (by rfl) (by rfl) (by rfl) ?_
                                                    refine GL.nil ?_
                                                    refine GE.any ?_
                                                    refine GA.take 12 #[true, true, true, true, true, true, true, true, true, true, true, true, false] rfl (by exact Ev.assign rfl) rfl rfl (by kernel_rfl) rfl (by kernel_rfl) (by kernel_rfl) (fun _ _ _ h => h) ?_
                                                    refine GA.done (JOk.dead (by kernel_rfl) (JOk.dead (by kernel_rfl) JOk.nil)) (by kernel_rfl) ?_
                                                    refine GE.mid ((g18, B120, d120, ls120) : Nat × Option Addr × Nat × List LiM) hli120 Wkp Wsb
                                                  exact GAs.nil
                                                exact GAs.nil
                                              refine GAs.cons rfl ?_ ?_
                                              · -- FFFfFFFFffFFF.1.3.5.10 op 10
                                                refine GL.alloc rfl ?_; intro g18
                                                refine GL.nil ?_
                                                refine GE.any ?_
                                                refine GA.branch (rs := [6]) (JOk.dead (by kernel_rfl) (JOk.dead (by kernel_rfl) JOk.nil)) (by kernel_rfl) (by simp) ?_
                                                refine GAs.cons rfl ?_ ?_
                                                · -- FFFfFFFFffFFF.1.3.5.10 op 6
                                                  refine GL.call rfl rfl (iCommitCells_spec _ _ _ _ _ (by first | assumption | exact RdG.imp (by assumption) Wim | exact RdG.of_pick Wpk Wpk) _ _ _ (by first | assumption | exact RdLs.imp (by assumption) Wim | exact RdLs.of_pick Wpk Wpk) _ _ _ _ Wrd (by first | omega | exact SizeG.le (by assumption)) (by assumption) Wom) ?_
                                                  rintro _ _ ⟨B120, d120, ls120, hli120, rfl, rfl⟩
                                                  rw [hgr115, hli117] at hli120 ⊢
                                                  refine GL.nil ?_
                                                  refine GE.any ?_
                                                  refine GA.take 7 #[true, true, true, true, true, true, true, false, false, false, true, false, false] rfl (by exact Ev.move rfl) rfl rfl (by kernel_rfl) rfl (by kernel_rfl) (by kernel_rfl) (fun _ _ _ h => h) ?_
                                                  refine GA.take 8 #[true, true, true, true, true, true, true, true, false, true, true, false, false] rfl (by exact Ev.extract rfl rfl) rfl rfl (by kernel_rfl) rfl (by kernel_rfl) (by kernel_rfl) (fun _ _ _ h => h) ?_
                                                  refine GA.take 9 #[true, true, true, true, true, true, true, true, true, false, true, true, false] rfl (by exact Ev.extract rfl rfl) rfl rfl (by kernel_rfl) rfl (by kernel_rfl) (by kernel_rfl) (fun _ _ _ h => h) ?_
                                                  refine GA.branch (rs := [11]) (JOk.dead (by kernel_rfl) (JOk.dead (by kernel_rfl) JOk.nil)) (by kernel_rfl) (by simp) ?_
                                                  refine GAs.cons rfl ?_ ?_
                                                  · -- FFFfFFFFffFFF.1.3.5.10 op 11
                                                    refine GL.store_varN rfl rfl rfl Wpk (by rfl) (by rfl) (by rfl) ?_
                                                    refine GL.nil ?_
                                                    refine GE.any ?_
                                                    refine GA.take 12 #[true, true, true, true, true, true, true, true, true, true, true, true, false] rfl (by exact Ev.assign rfl) rfl rfl (by kernel_rfl) rfl (by kernel_rfl) (by kernel_rfl) (fun _ _ _ h => h) ?_
                                                    refine GA.done (JOk.dead (by kernel_rfl) (JOk.dead (by kernel_rfl) JOk.nil)) (by kernel_rfl) ?_
                                                    refine GE.mid ((g18, B120, d120, ls120) : Nat × Option Addr × Nat × List LiM) hli120 Wkp Wsb
                                                  exact GAs.nil
                                                exact GAs.nil
                                              exact GAs.nil
                                            refine GAs.cons rfl ?_ ?_
                                            · -- FFFfFFFFffFFF.1.3.10 op 10
                                              refine GL.alloc rfl ?_; intro g18
                                              refine GL.nil ?_
                                              refine GE.any ?_
                                              refine GA.branch (rs := [5]) (JOk.dead (by kernel_rfl) (JOk.dead (by kernel_rfl) JOk.nil)) (by kernel_rfl) (by simp) ?_
                                              refine GAs.cons rfl ?_ ?_
                                              · -- FFFfFFFFffFFF.1.3.10 op 5
                                                refine GL.call rfl rfl (toIntS_spec _ _ _ _ _ Wrd Wom) ?_
                                                rintro _ _ ⟨B119, rfl, rfl⟩
                                                refine GL.nil ?_
                                                refine GE.any ?_
                                                refine GA.branch (rs := [6]) (JOk.dead (by kernel_rfl) (JOk.dead (by kernel_rfl) JOk.nil)) (by kernel_rfl) (by simp) ?_
                                                refine GAs.cons rfl ?_ ?_
                                                · -- FFFfFFFFffFFF.1.3.10 op 6
                                                  refine GL.call rfl rfl (iCommitCells_spec _ _ _ _ _ (by first | assumption | exact RdG.imp (by assumption) Wim | exact RdG.of_pick Wpk Wpk) _ _ _ (by first | assumption | exact RdLs.imp (by assumption) Wim | exact RdLs.of_pick Wpk Wpk) _ _ _ _ Wrd (by first | omega | exact SizeG.le (by assumption)) (by assumption) Wom) ?_
                                                  rintro _ _ ⟨B120, d120, ls120, hli120, rfl, rfl⟩
                                                  rw [hgr115, hli117] at hli120 ⊢
                                                  refine GL.nil ?_
                                                  refine GE.any ?_
                                                  refine GA.take 7 #[true, true, true, true, true, true, true, false, false, false, true, false, false] rfl (by exact Ev.move rfl) rfl rfl (by kernel_rfl) rfl (by kernel_rfl) (by kernel_rfl) (fun _ _ _ h => h) ?_
                                                  refine GA.take 8 #[true, true, true, true, true, true, true, true, false, true, true, false, false] rfl (by exact Ev.extract rfl rfl) rfl rfl (by kernel_rfl) rfl (by kernel_rfl) (by kernel_rfl) (fun _ _ _ h => h) ?_
                                                  refine GA.take 9 #[true, true, true, true, true, true, true, true, true, false, true, true, false] rfl (by exact Ev.extract rfl rfl) rfl rfl (by kernel_rfl) rfl (by kernel_rfl) (by kernel_rfl) (fun _ _ _ h => h) ?_
                                                  refine GA.branch (rs := [11]) (JOk.dead (by kernel_rfl) (JOk.dead (by kernel_rfl) JOk.nil)) (by kernel_rfl) (by simp) ?_
                                                  refine GAs.cons rfl ?_ ?_
                                                  · -- FFFfFFFFffFFF.1.3.10 op 11
                                                    refine GL.store_varN rfl rfl rfl Wpk (by rfl) (by rfl) (by rfl) ?_
                                                    refine GL.nil ?_
                                                    refine GE.any ?_
                                                    refine GA.take 12 #[true, true, true, true, true, true, true, true, true, true, true, true, false] rfl (by exact Ev.assign rfl) rfl rfl (by kernel_rfl) rfl (by kernel_rfl) (by kernel_rfl) (fun _ _ _ h => h) ?_
                                                    refine GA.done (JOk.dead (by kernel_rfl) (JOk.dead (by kernel_rfl) JOk.nil)) (by kernel_rfl) ?_
                                                    refine GE.mid ((g18, B120, d120, ls120) : Nat × Option Addr × Nat × List LiM) hli120 Wkp Wsb
                                                  exact GAs.nil
                                                exact GAs.nil
                                              exact GAs.nil
                                            exact GAs.nil
                                          refine GAs.cons rfl ?_ ?_
                                          · -- FFFfFFFFffFFF.1.10 op 10
                                            refine GL.alloc rfl ?_; intro g18
                                            refine GL.nil ?_
                                            refine GE.any ?_
                                            refine GA.branch (rs := [3]) (JOk.live (by exact Wlba) (JOk.dead (by kernel_rfl) JOk.nil)) (by kernel_rfl) (by simp) ?_
                                            refine GAs.cons rfl ?_ ?_
                                            · -- FFFfFFFFffFFF.1.10 op 3
                                              refine GL.call rfl rfl (toHistory_spec _ _ _ _ _ (RdLs.imp (by assumption) Wim) _ (by assumption)) ?_
                                              rintro _ _ ⟨B117, ls117, hli117, rfl, rfl⟩
                                              have hZ117 := SizeLs.li (by assumption) hli117
                                              refine GL.nil ?_
                                              refine GE.any ?_
                                              refine GA.branch (rs := [5]) (JOk.dead (by kernel_rfl) (JOk.dead (by kernel_rfl) JOk.nil)) (by kernel_rfl) (by simp) ?_
                                              refine GAs.cons rfl ?_ ?_
                                              · -- FFFfFFFFffFFF.1.10 op 5
                                                refine GL.call rfl rfl (toIntS_spec _ _ _ _ _ Wrd Wom) ?_
                                                rintro _ _ ⟨B119, rfl, rfl⟩
                                                refine GL.nil ?_
                                                refine GE.any ?_
                                                refine GA.branch (rs := [6]) (JOk.dead (by kernel_rfl) (JOk.dead (by kernel_rfl) JOk.nil)) (by kernel_rfl) (by simp) ?_
                                                refine GAs.cons rfl ?_ ?_
                                                · -- FFFfFFFFffFFF.1.10 op 6
                                                  refine GL.call rfl rfl (iCommitCells_spec _ _ _ _ _ (by first | assumption | exact RdG.imp (by assumption) Wim | exact RdG.of_pick Wpk Wpk) _ _ _ (by first | assumption | exact RdLs.imp (by assumption) Wim | exact RdLs.of_pick Wpk Wpk) _ _ _ _ Wrd (by first | omega | exact SizeG.le (by assumption)) (by assumption) Wom) ?_
                                                  rintro _ _ ⟨B120, d120, ls120, hli120, rfl, rfl⟩
                                                  rw [hgr115, hli117] at hli120 ⊢
                                                  refine GL.nil ?_
                                                  refine GE.any ?_
                                                  refine GA.take 7 #[true, true, true, true, true, true, true, false, false, false, true, false, false] rfl (by exact Ev.move rfl) rfl rfl (by kernel_rfl) rfl (by kernel_rfl) (by kernel_rfl) (fun _ _ _ h => h) ?_
                                                  refine GA.take 8 #[true, true, true, true, true, true, true, true, false, true, true, false, false] rfl (by exact Ev.extract rfl rfl) rfl rfl (by kernel_rfl) rfl (by kernel_rfl) (by kernel_rfl) (fun _ _ _ h => h) ?_
                                                  refine GA.take 9 #[true, true, true, true, true, true, true, true, true, false, true, true, false] rfl (by exact Ev.extract rfl rfl) rfl rfl (by kernel_rfl) rfl (by kernel_rfl) (by kernel_rfl) (fun _ _ _ h => h) ?_
                                                  refine GA.branch (rs := [11]) (JOk.dead (by kernel_rfl) (JOk.dead (by kernel_rfl) JOk.nil)) (by kernel_rfl) (by simp) ?_
                                                  refine GAs.cons rfl ?_ ?_
                                                  · -- FFFfFFFFffFFF.1.10 op 11
                                                    refine GL.store_varN rfl rfl rfl Wpk (by rfl) (by rfl) (by rfl) ?_
                                                    refine GL.nil ?_
                                                    refine GE.any ?_
                                                    refine GA.take 12 #[true, true, true, true, true, true, true, true, true, true, true, true, false] rfl (by exact Ev.assign rfl) rfl rfl (by kernel_rfl) rfl (by kernel_rfl) (by kernel_rfl) (fun _ _ _ h => h) ?_
                                                    refine GA.done (JOk.dead (by kernel_rfl) (JOk.dead (by kernel_rfl) JOk.nil)) (by kernel_rfl) ?_
                                                    refine GE.mid ((g18, B120, d120, ls120) : Nat × Option Addr × Nat × List LiM) hli120 Wkp Wsb
                                                  exact GAs.nil
                                                exact GAs.nil
                                              exact GAs.nil
                                            exact GAs.nil
                                          exact GAs.nil
                                        refine GAs.cons rfl ?_ ?_
                                        · -- FFFfFFFFffFFF.10 op 10
                                          refine GL.alloc rfl ?_; intro g18
                                          refine GL.nil ?_
                                          refine GE.any ?_
                                          refine GA.branch (rs := [1]) (JOk.live (by exact Wlba) (JOk.live (by exact Wlba) JOk.nil)) (by kernel_rfl) (by simp) ?_
                                          refine GAs.cons rfl ?_ ?_
                                          · -- FFFfFFFFffFFF.10 op 1
                                            refine GL.call rfl rfl (toGraph_spec _ _ _ _ _ (RdL.imp (by assumption) Wim) (by assumption)) ?_
                                            rintro _ _ ⟨B115, ns115, hgr115, rfl, rfl⟩
                                            have hS115 := SizeG.gr (by assumption) hgr115
                                            refine GL.nil ?_
                                            refine GE.any ?_
                                            refine GA.branch (rs := [3]) (JOk.live (by exact Wlba) (JOk.dead (by kernel_rfl) JOk.nil)) (by kernel_rfl) (by simp) ?_
                                            refine GAs.cons rfl ?_ ?_
                                            · -- FFFfFFFFffFFF.10 op 3
                                              refine GL.call rfl rfl (toHistory_spec _ _ _ _ _ (RdLs.imp (by assumption) Wim) _ (by assumption)) ?_
                                              rintro _ _ ⟨B117, ls117, hli117, rfl, rfl⟩
                                              have hZ117 := SizeLs.li (by assumption) hli117
                                              refine GL.nil ?_
                                              refine GE.any ?_
                                              refine GA.branch (rs := [5]) (JOk.dead (by kernel_rfl) (JOk.dead (by kernel_rfl) JOk.nil)) (by kernel_rfl) (by simp) ?_
                                              refine GAs.cons rfl ?_ ?_
                                              · -- FFFfFFFFffFFF.10 op 5
                                                refine GL.call rfl rfl (toIntS_spec _ _ _ _ _ Wrd Wom) ?_
                                                rintro _ _ ⟨B119, rfl, rfl⟩
                                                refine GL.nil ?_
                                                refine GE.any ?_
                                                refine GA.branch (rs := [6]) (JOk.dead (by kernel_rfl) (JOk.dead (by kernel_rfl) JOk.nil)) (by kernel_rfl) (by simp) ?_
                                                refine GAs.cons rfl ?_ ?_
                                                · -- FFFfFFFFffFFF.10 op 6
                                                  refine GL.call rfl rfl (iCommitCells_spec _ _ _ _ _ (by first | assumption | exact RdG.imp (by assumption) Wim | exact RdG.of_pick Wpk Wpk) _ _ _ (by first | assumption | exact RdLs.imp (by assumption) Wim | exact RdLs.of_pick Wpk Wpk) _ _ _ _ Wrd (by first | omega | exact SizeG.le (by assumption)) (by assumption) Wom) ?_
                                                  rintro _ _ ⟨B120, d120, ls120, hli120, rfl, rfl⟩
                                                  rw [hgr115, hli117] at hli120 ⊢
                                                  refine GL.nil ?_
                                                  refine GE.any ?_
                                                  refine GA.take 7 #[true, true, true, true, true, true, true, false, false, false, true, false, false] rfl (by exact Ev.move rfl) rfl rfl (by kernel_rfl) rfl (by kernel_rfl) (by kernel_rfl) (fun _ _ _ h => h) ?_
                                                  refine GA.take 8 #[true, true, true, true, true, true, true, true, false, true, true, false, false] rfl (by exact Ev.extract rfl rfl) rfl rfl (by kernel_rfl) rfl (by kernel_rfl) (by kernel_rfl) (fun _ _ _ h => h) ?_
                                                  refine GA.take 9 #[true, true, true, true, true, true, true, true, true, false, true, true, false] rfl (by exact Ev.extract rfl rfl) rfl rfl (by kernel_rfl) rfl (by kernel_rfl) (by kernel_rfl) (fun _ _ _ h => h) ?_
                                                  refine GA.branch (rs := [11]) (JOk.dead (by kernel_rfl) (JOk.dead (by kernel_rfl) JOk.nil)) (by kernel_rfl) (by simp) ?_
                                                  refine GAs.cons rfl ?_ ?_
                                                  · -- FFFfFFFFffFFF.10 op 11
                                                    refine GL.store_varN rfl rfl rfl Wpk (by rfl) (by rfl) (by rfl) ?_
                                                    refine GL.nil ?_
                                                    refine GE.any ?_
                                                    refine GA.take 12 #[true, true, true, true, true, true, true, true, true, true, true, true, false] rfl (by exact Ev.assign rfl) rfl rfl (by kernel_rfl) rfl (by kernel_rfl) (by kernel_rfl) (fun _ _ _ h => h) ?_
                                                    refine GA.done (JOk.dead (by kernel_rfl) (JOk.dead (by kernel_rfl) JOk.nil)) (by kernel_rfl) ?_
                                                    refine GE.mid ((g18, B120, d120, ls120) : Nat × Option Addr × Nat × List LiM) hli120 Wkp Wsb
                                                  exact GAs.nil
                                                exact GAs.nil
                                              exact GAs.nil
                                            exact GAs.nil
                                          exact GAs.nil
                                        exact GAs.nil
                                      ·
                                        rintro ⟨g18, B120, d120, ls120⟩ hli120
                                        dsimp only at hli120 ⊢
                                        have hZ120 := SizeLs.com hli120 hZ (by omega)
                                        refine GC.seq ?_
                                        refine GC.seq ?_
                                        refine GC.region ?_
                                        refine GL.v Wlba ?_
                                        refine GL.v Wlba ?_
                                        refine GL.callF rfl rfl (eqHistory_spec _ _ _ _ _ (by first | assumption | exact RdLs.imp (by assumption) Wim | exact RdLs.of_pick Wpk Wpk) _ _ _ _ (by first | assumption | exact RdLs.imp (by assumption) Wim | exact RdLs.of_pick Wpk Wpk) _ (by assumption)) ?_
                                        refine GL.v Wnt ?_
                                        refine GL.v Wmv ?_
                                        refine GL.gs (fun h14 => ?_) (fun h14 => ?_)
                                        · -- FFFfFFFFffFFFt
                                          exact absurd ⟨hli120.trans hli40.symm, rfl⟩ h14
                                        · -- FFFfFFFFffFFFf
                                          refine GL.want rfl rfl ?_
                                          refine GL.v Wmv ?_
                                          refine GL.want rfl rfl ?_
                                          refine GL.v Wmv ?_
                                          refine GL.want rfl rfl ?_
                                          refine GL.v (by exact EvP.r (Ev.neq_bool rfl rfl)) ?_
                                          refine GL.v Wpf ?_
                                          refine GL.nil ?_
                                          refine GE.seq ?_
                                          refine GC.ifs (fun h15 => ?_) (fun h15 => ?_)
                                          · -- FFFfFFFFffFFFfT
                                            exact absurd rfl h15
                                          · -- FFFfFFFFffFFFfF
                                            refine GC.skip ?_
                                            refine GE.seq ?_
                                            refine GC.seq ?_
                                            refine GC.region ?_
                                            refine GL.v Wag ?_
                                            refine GL.nil ?_
                                            refine GE.seq ?_
                                            refine GC.seq ?_
                                            refine GC.region ?_
                                            refine GL.v Wlba ?_
                                            refine GL.v Wmv ?_
                                            refine GL.callF rfl rfl (heldHistory_spec _ _ _ _ _ ls53 _ _ (RdLs.of_pick Wpk Wpk) hZ53 rfl (by decide) (by decide)) ?_
                                            refine GL.v Wag ?_
                                            refine GL.nil ?_
                                            refine GE.seq ?_
                                            refine GC.seq ?_
                                            refine GC.seq ?_
                                            refine GC.region ?_
                                            refine GL.v Wmv ?_
                                            refine GL.v Wls ?_
                                            refine GL.nil ?_
                                            refine GE.seq ?_
                                            refine GC.ifs (fun h16 => ?_) (fun h16 => ?_)
                                            · -- FFFfFFFFffFFFfFT
                                              omega
                                            · -- FFFfFFFFffFFFfFF
                                              refine GC.skip ?_
                                              refine GE.seq ?_
                                              refine GC.seq ?_
                                              refine GC.seq ?_
                                              refine GC.region ?_
                                              refine GL.v Wmv ?_
                                              refine GL.v Wmv ?_
                                              refine GL.v Wnq ?_
                                              refine GL.nil ?_
                                              refine GE.seq ?_
                                              refine GC.ifs (fun h17 => ?_) (fun h17 => ?_)
                                              · -- FFFfFFFFffFFFfFFT
                                                exact absurd rfl h17
                                              · -- FFFfFFFFffFFFfFFF
                                                refine GC.skip ?_
                                                refine GE.seq ?_
                                                refine GC.seq ?_
                                                refine GC.region ?_
                                                refine GL.v Wag ?_
                                                refine GL.nil ?_
                                                refine GE.seq ?_
                                                refine GC.ret ?_
                                                -- returns, path FFFfFFFFffFFFfFFF
                                                refine GE.ret_tmp (L' := L) (.inl rfl) rfl rfl Wsb ?_
                                                exact ⟨rfl, rfl⟩
                      exact GAs.nil
                    exact GAs.nil
                exact GAs.nil
              exact GAs.nil
theorem fnExactCommitCells_calls {H : Type} {enc : TypeId × Value → H} {W : World} {base : Nat} {args : Array Value} {ds : List (DataW H)} {p : List MemPlace} (hval : ∀ (j : Nat) t v, Try.f14.params[j]? = some t → args[j]? = some v → Value.okWide Try.prog W .any base t v)
    (hA : DataW.TrodAll enc Try.prog W 0 (fun _ => true) true Try.f14.params.toList args.toList ds p) : Tr Try.prog 14 args W [] (fun v L' => v = .bool true ∧ L' = []) := by
  rw [Try.params14] at hA hval
  obtain ⟨v0, vs0, d0, ds0, p0, q0, hargs, rfl, rfl, h0, r0⟩ := trodAll_cons hA
  obtain ⟨v1, vs1, d1, ds1, p1, q1, rfl, rfl, rfl, h1, r1⟩ := trodAll_cons r0
  obtain ⟨v2, vs2, d2, ds2, p2, q2, rfl, rfl, rfl, h2, r2⟩ := trodAll_cons r1
  obtain ⟨rfl, rfl, rfl⟩ := trodAll_nil r2
  obtain rfl : args = #[v0, v1, v2] := by cases args; simp_all
  obtain ⟨A, c, ms, rfl, hG⟩ := arg_graph (hval 0 _ v0 rfl rfl) h0
  obtain ⟨B, d, ls, k0, rfl, hH⟩ := arg_history (hval 1 _ v1 rfl rfl) h1
  obtain ⟨E, e, ys, rfl, hY, _⟩ := arg_sl (E := intE) (st := 26) (by kernel_rfl) (opens_ints W) (hval 2 _ v2 rfl rfl) h2
  exact FnExactCommitCells_spec W [] A c ms hG B d ls hH k0 E e ys hY
theorem fnExactCommitCells_lifted (os : Os) (started : os.Started) (H : Type) (enc : TypeId × Value → H) :
    ReturnsInHanded {} Try.checked os 14 .any (Ytpkooglnapjcnaa.Rows.fnExactCommitCellsSpec.pre6 enc Try.prog Try.f14 Ytpkooglnapjcnaa.Rows.fnExactCommitCellsRow.domain false) (Ytpkooglnapjcnaa.Rows.fnExactCommitCellsSpec.post enc Try.prog Try.f14 false true false false) := by
  refine returnsInHanded_of_change (C := Try.checked) own started (by kernel_rfl) Try.func14
    (ChangeSpec.witness6 (enc := enc) (C := Try.checked) false ⟨#[], #[.agg #[.slice none 0 0], .agg #[.slice none 0 0, .int .i64 0], .slice none 0 0], []⟩ 8 (by kernel_rfl) (by kernel_rfl) (by kernel_rfl) (by kernel_rfl)) ?_
  intro W base args ds gs before hval0 hW hcnd _
  have hval : ∀ (j : Nat) t v, Try.f14.params[j]? = some t → args[j]? = some v → Value.okWide Try.prog W .any base t v := hval0
  have hW' := hW
  obtain ⟨p, q, hA0, _⟩ := hW
  have hA : DataW.TrodAll enc Try.prog W 0 (fun _ => true) true Try.f14.params.toList args.toList ds p := hA0
  have hlen : ds.length = Try.f14.params.toList.length := trodAll_len hA
  rw [Try.params14] at hlen
  refine ((fnExactCommitCells_calls hval hA).go W (St.start W)).mono ?_
  rintro e W' ⟨v, L', ⟨rfl, rfl⟩, rfl, hs⟩
  exact ⟨_, rfl, law_post kids full (by rw [Try.params14]; decide) hW' rfl (fun hg => by subst hg; match ds, hlen with | [_, _, _], _ => exact bool_res) (fun hg => by subst hg; match ds, hlen with | [_, _, _], _ => rfl) (fun hg => by subst hg; match ds, hlen with | [_, _, _], _ => rfl) hs.below⟩
theorem fnExactCommitCells_over : Ytpkooglnapjcnaa.Rows.fnExactCommitCellsRow.holds Try.pinned (OpenSpec.ofChange Ytpkooglnapjcnaa.Rows.fnExactCommitCellsSpec) :=
  OpenClaim.holds_of_wide 14 Try.f14 rfl rfl rfl rfl rfl rfl rfl ⟨rfl, rfl, rfl, rfl, rfl⟩ rfl rfl rfl rfl rfl (by kernel_rfl) Try.func14 (by kernel_rfl)
    (of_decide_eq_true (by kernel_rfl)) (by unfold Func.isWrapper; first | (rw [if_pos (by decide +kernel)]; kernel_rfl) | (rw [if_neg (by decide +kernel)]; exact ⟨rfl, rfl⟩))
    (fun os started H enc _ => fnExactCommitCells_lifted os started H enc)
end SG
namespace Go.Proofs.Ytpkooglnapjcnaa
theorem fnExactCommitCells_proved : Rows.FnExactCommitCellsSaid := SG.fnExactCommitCells_over
end Go.Proofs.Ytpkooglnapjcnaa
#print axioms Go.Proofs.Ytpkooglnapjcnaa.fnExactCommitCells_proved
