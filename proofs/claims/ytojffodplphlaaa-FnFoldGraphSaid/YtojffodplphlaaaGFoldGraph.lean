/- The law FnFoldGraph holds for every input. -/
import Derived.Test.YtojffodplphlaaaD13
import Derived.Test.YtojffodplphlaaaD14
import Derived.Test.YtojffodplphlaaaD25
import Derived.Test.YtojffodplphlaaaD34
import Derived.Test.YtojffodplphlaaaD35
import Derived.Test.YtojffodplphlaaaD40
import Derived.Test.YtojffodplphlaaaD52
import Derived.Test.YtojffodplphlaaaRows
namespace SG
open Go Go.RowKit Go.Proofs Go.Proofs.Ytojffodplphlaaa Go.ChangeShapes Go.WideShapes Go.Deep
set_option linter.unusedVariables false
set_option linter.unusedSimpArgs false
set_option maxRecDepth 100000
theorem FnFoldGraph_spec (w0 : World) (L : List Asn) (A : Option Addr) (c : Nat) (bs : List Int) (hR : Rd w0 [] byteE A c bs) (hb : ∀ x ∈ bs, 0 ≤ x ∧ x ≤ 255) :
    Tr Try.prog 12 #[.slice A bs.length c] w0 L (fun v L' => v = .bool true ∧ L' = L) := by
  refine Tr.rd_cap (hR.imp Imp.nil) fun hc1 hc2 => ?_
  refine Tr.enter (args := [.slice A bs.length c]) Try.func12 Try.ntmps12 rfl rfl ?_
  refine GC.seq ?_
  refine GC.region ?_
  refine GL.v Wag ?_
  refine GL.nil ?_
  refine GE.seq ?_
  refine GC.seq ?_
  refine GC.seq ?_
  refine GC.region ?_
  refine GL.v Wmv ?_
  refine GL.v Wln ?_
  refine GL.v Wgt ?_
  refine GL.nil ?_
  refine GE.seq ?_
  refine GC.ifs (fun h1 => ?_) (fun h1 => ?_)
  · -- T
    refine GC.seq ?_
    refine GC.region ?_
    refine GL.v Wag ?_
    refine GL.nil ?_
    refine GE.seq ?_
    refine GC.ret ?_
    refine GE.seq_ret ?_
    -- returns, path T
    refine GE.ret_tmp (L' := L) (.inl rfl) rfl rfl Wsb ?_
    exact ⟨rfl, rfl⟩
  · -- F
    refine GC.skip ?_
    refine GE.seq ?_
    refine GC.seq ?_
    refine GC.region ?_
    refine GL.v Wmv ?_
    refine GL.call rfl rfl (DrawFoldGraph_spec _ _ _ _ _ (by assumption) (by assumption) (by omega) (by omega)) ?_
    rintro _ _ ⟨D12, e12, ms12, rfl, ms12a, ms12b, ms12c, rfl⟩
    have hS12 := SizeG.small ms12b ms12c
    refine GL.alloc rfl ?_; intro g3
    refine GL.store_varN rfl rfl rfl Wpk (by rfl) (by rfl) (by rfl) ?_
    refine GL.nil ?_
    refine GE.seq ?_
    refine GC.seq ?_
    refine GC.region ?_
    refine GL.v Wlba ?_
    refine GL.call rfl rfl (iFoldGraph_spec _ _ _ _ _ (by first | assumption | exact RdG.imp (by assumption) Wim | exact RdG.of_pick Wpk Wpk) (by assumption)) ?_
    rintro _ _ ⟨B14, d14, ns14, hgr14, rfl, rfl⟩
    have hZ14 := sizeG_fold hgr14
    refine GL.alloc rfl ?_; intro g4
    refine GL.store_varN rfl rfl rfl Wpk (by rfl) (by rfl) (by rfl) ?_
    refine GL.nil ?_
    refine GE.seq ?_
    refine GC.seq ?_
    refine GC.seq ?_
    refine GC.region_any #[false, false, true, true, false, false, false, true, false, false] mixed ?_
    refine GA.read 0 #[false, true, true, false, false, false, false, false, false, false] rfl (by exact Wlba) rfl rfl (by kernel_rfl) rfl (by kernel_rfl) (by kernel_rfl) (fun _ _ _ h => h) ?_
    refine GA.read 1 #[true, false, false, false, false, false, false, false, false, false] rfl (by exact Wlba) rfl rfl (by kernel_rfl) rfl (by kernel_rfl) (by kernel_rfl) (fun _ _ _ h => h) ?_
    refine GA.branch (rs := [2]) (JOk.live (by exact Wlba) (JOk.live (by exact Wlba) JOk.nil)) (by kernel_rfl) (by simp) ?_
    refine GAs.cons rfl ?_ ?_
    · -- F op 2
      refine GL.call rfl rfl (sFoldGraph_spec _ _ _ _ _ (by first | assumption | exact RdG.imp (by assumption) Wim | exact RdG.of_pick Wpk Wpk) (by assumption)) ?_
      rintro _ _ ⟨B17, d17, ns17, hgr17, rfl, rfl⟩
      have hZ17 := sizeG_fold hgr17
      refine GL.nil ?_
      refine GE.any ?_
      refine GA.branch (rs := [3]) (JOk.dead (by kernel_rfl) (JOk.live (by exact Wlba) JOk.nil)) (by kernel_rfl) (by simp) ?_
      refine GAs.cons rfl ?_ ?_
      · -- F op 3
        refine GL.callF rfl rfl (equalGraph_spec _ _ _ _ _ (by first | assumption | exact RdG.imp (by assumption) Wim | exact RdG.of_pick Wpk Wpk) _ _ _ (by first | assumption | exact RdG.imp (by assumption) Wim | exact RdG.of_pick Wpk Wpk) (by assumption)) ?_
        refine GL.nil ?_
        refine GE.any ?_
        refine GA.take 4 #[true, true, true, true, false, false, false, false, false, false] rfl (by exact Ev.not rfl) rfl rfl (by kernel_rfl) rfl (by kernel_rfl) (by kernel_rfl) (fun _ _ _ h => h) ?_
        refine GA.take 5 #[true, true, true, true, true, false, false, false, false, false] rfl (by exact Ev.move rfl) rfl rfl (by kernel_rfl) rfl (by kernel_rfl) (by kernel_rfl) (fun _ _ _ h => h) ?_
        first | refine GA.split_dec (d := 20) rfl (fun h2 => ?_) (fun h2 => ?_) | refine GA.split_ndec (d := 20) rfl (fun h2 => ?_) (fun h2 => ?_) | refine GA.split (d := 20) rfl (fun h2 => ?_) (fun h2 => ?_)
        · -- Ft
          exact absurd (hgr14.trans hgr17.symm) h2
        · -- Ff
          refine GA.read_want 6 #[true, true, true, true, true, true, false, false, false, false] rfl rfl rfl (by exact Wlba) rfl (by kernel_rfl) rfl (by kernel_rfl) (by kernel_rfl) (fun _ _ _ h => h) ?_
          refine GA.branch (rs := [7]) (JOk.live (by exact Wlba) (JOk.dead (by kernel_rfl) (JOk.dead (by kernel_rfl) JOk.nil))) (by kernel_rfl) (by simp) ?_
          refine GAs.cons rfl ?_ ?_
          · -- Ff op 7
            refine GL.want rfl rfl ?_
            refine GL.callF rfl rfl (iValidGraph_spec _ _ _ _ _ (by first | assumption | exact RdG.imp (by assumption) Wim | exact RdG.of_pick Wpk Wpk) (by first | omega | exact SizeG.le (by assumption))) ?_
            refine GL.nil ?_
            refine GE.any ?_
            refine GA.take_want 8 #[true, true, true, true, true, true, true, true, false, false] rfl rfl rfl (by exact Ev.not rfl) rfl (by kernel_rfl) rfl (by kernel_rfl) (by kernel_rfl) (fun _ _ _ h => h) ?_
            refine GA.take 9 #[true, true, true, true, true, true, true, true, true, false] rfl (by exact Ev.pick_false rfl rfl) rfl rfl (by kernel_rfl) rfl (by kernel_rfl) (by kernel_rfl) (fun _ _ _ h => h) ?_
            refine GA.done (JOk.dead (by kernel_rfl) (JOk.dead (by kernel_rfl) (JOk.dead (by kernel_rfl) JOk.nil))) (by kernel_rfl) ?_
            refine GE.seq ?_
            refine GC.ifs (fun h3 => ?_) (fun h3 => ?_)
            · -- FfT
              refine GC.seq ?_
              refine GC.region_any #[false, false, true, true, false] mixed ?_
              refine GA.read 0 #[false, true, true, false, false] rfl (by exact Wlba) rfl rfl (by kernel_rfl) rfl (by kernel_rfl) (by kernel_rfl) (fun _ _ _ h => h) ?_
              refine GA.read 1 #[true, false, false, false, false] rfl (by exact Wlba) rfl rfl (by kernel_rfl) rfl (by kernel_rfl) (by kernel_rfl) (fun _ _ _ h => h) ?_
              refine GA.branch (rs := [2]) (JOk.live (by exact Wlba) (JOk.live (by exact Wlba) JOk.nil)) (by kernel_rfl) (by simp) ?_
              refine GAs.cons rfl ?_ ?_
              · -- FfT op 2
                refine GL.call rfl rfl (sFoldGraph_spec _ _ _ _ _ (by first | assumption | exact RdG.imp (by assumption) Wim | exact RdG.of_pick Wpk Wpk) (by assumption)) ?_
                rintro _ _ ⟨B27, d27, ns27, hgr27, rfl, rfl⟩
                have hZ27 := sizeG_fold hgr27
                refine GL.nil ?_
                refine GE.any ?_
                refine GA.branch (rs := [3]) (JOk.dead (by kernel_rfl) (JOk.live (by exact Wlba) JOk.nil)) (by kernel_rfl) (by simp) ?_
                refine GAs.cons rfl ?_ ?_
                · -- FfT op 3
                  refine GL.callF rfl rfl (equalGraph_spec _ _ _ _ _ (by first | assumption | exact RdG.imp (by assumption) Wim | exact RdG.of_pick Wpk Wpk) _ _ _ (by first | assumption | exact RdG.imp (by assumption) Wim | exact RdG.of_pick Wpk Wpk) (by assumption)) ?_
                  refine GL.nil ?_
                  refine GE.any ?_
                  refine GA.take 4 #[true, true, true, true, false] rfl (by exact Ev.assign rfl) rfl rfl (by kernel_rfl) rfl (by kernel_rfl) (by kernel_rfl) (fun _ _ _ h => h) ?_
                  refine GA.done (JOk.dead (by kernel_rfl) (JOk.dead (by kernel_rfl) JOk.nil)) (by kernel_rfl) ?_
                  refine GE.seq ?_
                  refine GC.ret ?_
                  refine GE.seq_ret ?_
                  -- returns, path FfT
                  refine GE.ret_tmp (L' := L) (.inl rfl) rfl rfl Wsb ?_
                  exact ⟨by rw [decide_eq_true (hgr14.trans hgr27.symm)], rfl⟩
                exact GAs.nil
              exact GAs.nil
            · -- FfF
              have hvg : validG (gr ms12) = true := by simpa using h3
              have hV := validG_iff.1 hvg
              have hgf : gr ns14 = (gr ms12).map folN := hgr14.trans (folG_yes hvg)
              have hnl : ns14.length = ms12.length := by have := congrArg List.length hgf; simpa using this
              refine GC.skip ?_
              refine GE.seq ?_
              refine GC.seq ?_
              refine GC.seq ?_
              refine GC.region ?_
              refine GL.v Wag ?_
              refine GL.nil ?_
              refine GE.seq ?_
              refine GC.block ?_
              -- loop 1: carried slots [5]
              refine GC.loopK (α := Nat) (fun k => k ≤ 10) (fun k => [(5, .int .i64 k)]) [(3, _), (4, _)] (fun k => blk g4 25 [.slice B14 ns14.length d14] :: row nodeE B14 d14 ns14 :: partsA ns14 :: blk g3 25 [.slice D12 ms12.length e12] :: row nodeE D12 e12 ms12 :: partsA ms12 :: L) (fun k => 10 - k) 0 Wkp Wsb (Nat.zero_le _) ?_
              rintro k hk
              refine GC.seq ?_
              refine GC.seq ?_
              refine GC.region ?_
              refine GL.v Wmv ?_
              refine GL.v Wlq ?_
              refine GL.nil ?_
              refine GE.seq ?_
              refine GC.ifs (fun h4 => ?_) (fun h4 => ?_)
              · -- FfFT
                refine GC.skip ?_
                refine GE.seq ?_
                refine GC.seq ?_
                refine GC.block ?_
                refine GC.seq ?_
                refine GC.region ?_
                refine GL.v Wfa ?_
                refine GL.v Wlb ?_
                refine GL.v Wln ?_
                refine GL.make rfl rfl Wik Wik (by omega) (by omega) rfl ?_; intro g36
                refine GL.v Wag ?_
                refine GL.nil ?_
                refine GE.seq ?_
                refine GC.seq ?_
                refine GC.seq ?_
                refine GC.region ?_
                refine GL.v Wag ?_
                refine GL.nil ?_
                refine GE.seq ?_
                refine GC.block ?_
                -- loop 2: carried slots [7]
                rw [show List.replicate ms12.length (0 : Int) = evenL (gr ms12) k 0 by rw [← evenL_zero, gr_length]]
                refine GC.loopK (α := Nat) (fun i => i ≤ ms12.length) (fun i => [(7, .int .i64 i)]) [(3, _), (4, _), (5, _), (6, _)] (fun i => row intE (some ⟨g36, 0, none⟩) ms12.length (evenL (gr ms12) k i) :: blk g4 25 [.slice B14 ns14.length d14] :: row nodeE B14 d14 ns14 :: partsA ns14 :: blk g3 25 [.slice D12 ms12.length e12] :: row nodeE D12 e12 ms12 :: partsA ms12 :: L) (fun i => ms12.length - i) 0 Wkp Wsb (Nat.zero_le _) ?_
                rintro i hi
                have hel := evenL_length (gr ms12) k i
                rw [gr_length] at hel
                refine GC.seq ?_
                refine GC.seq ?_
                refine GC.region ?_
                refine GL.v Wmv ?_
                refine GL.v Wmv ?_
                refine GL.v Wln ?_
                refine GL.v Wls ?_
                refine GL.nil ?_
                refine GE.seq ?_
                refine GC.ifs (fun h5 => ?_) (fun h5 => ?_)
                · -- FfFTT
                  have hil : i < ms12.length := by omega
                  have hki : kindAt (gr ms12) i = ms12[i].kind := by rw [kindAt_gr (k := i) (by omega)]; rfl
                  refine GC.skip ?_
                  refine GE.seq ?_
                  refine GC.seq ?_
                  refine GC.block ?_
                  refine GC.seq ?_
                  refine GC.region ?_
                  refine GL.v Wfa ?_
                  refine GL.v Wlb ?_
                  refine GL.v Wmv ?_
                  refine GL.v Wix ?_
                  refine GL.v Wfa ?_
                  refine GL.v Wlef ?_
                  refine GL.v Weq ?_
                  refine GL.nil ?_
                  refine GE.seq ?_
                  refine GC.ifs (fun h6 => ?_) (fun h6 => ?_)
                  · -- FfFTTT
                    refine GC.region ?_
                    refine GL.v Wmv ?_
                    refine GL.v Wmv ?_
                    refine GL.v Wmv ?_
                    refine GL.v Wix ?_
                    refine GL.store_el rfl rfl Wpk rfl rfl rfl (by first | omega | (simp; done) | (simp; omega)) ?_
                    refine GL.nil ?_
                    refine GE.block ?_
                    refine GE.seq ?_
                    refine GC.region ?_
                    refine GL.v Wmv ?_
                    refine GL.v Wad ?_
                    refine GL.v Wag ?_
                    refine GL.nil ?_
                    -- round of loop 2, path FfFTTT
                    rw [evenL_set (by simpa using hil) (hki.trans h6)]
                    refine GE.round (i + 1) (by omega) (by omega) Wkp Wsb
                  · -- FfFTTF
                    refine GC.skip ?_
                    refine GE.block ?_
                    refine GE.seq ?_
                    refine GC.region ?_
                    refine GL.v Wmv ?_
                    refine GL.v Wad ?_
                    refine GL.v Wag ?_
                    refine GL.nil ?_
                    -- round of loop 2, path FfFTTF
                    rw [evenL_skip (t := i) (by simpa using hil) (fun h => h6 (hki.symm.trans h))]
                    refine GE.round (i + 1) (by omega) (by omega) Wkp Wsb
                · -- FfFTF
                  obtain rfl : i = ms12.length := by omega
                  have hev := even_valid hV (k := k) (by omega) (by omega)
                  rw [gr_length] at hev
                  have hev2 := folG_cells hev
                  have hmg := folG_meanL hV (evenL (gr ms12) k ms12.length)
                  have hdg := folG_depsL hV (evenL (gr ms12) k ms12.length)
                  rw [← hgf] at hev2 hmg hdg
                  have ht1 := meanOfL_ten (gr ns14) (evenL (gr ms12) k ms12.length)
                  have ht2 := meanOfL_ten (gr ms12) (evenL (gr ms12) k ms12.length)
                  refine GC.exit ?_
                  refine GE.seq_exit ?_
                  refine GE.loop_exit ?_
                  refine GE.block_exit ?_
                  refine GE.seq ?_
                  refine GC.seq ?_
                  refine GC.region_any #[false, false, true, false, false, true, true, false, false, false, false, true, false, false, true, true, false, false] mixed ?_
                  refine GA.read 0 #[false, true, false, true, true, false, false, false, false, false, false, false, false, false, false, false, false, false] rfl (by exact Wlba) rfl rfl (by kernel_rfl) rfl (by kernel_rfl) (by kernel_rfl) (fun _ _ _ h => h) ?_
                  refine GA.take 1 #[true, false, false, true, true, false, false, false, false, false, false, false, false, false, false, false, false, false] rfl (by exact Ev.move rfl) rfl rfl (by kernel_rfl) rfl (by kernel_rfl) (by kernel_rfl) (fun _ _ _ h => h) ?_
                  refine GA.read 3 #[true, true, true, false, true, false, false, false, false, false, false, false, false, false, false, false, false, false] rfl (by exact Wlba) rfl rfl (by kernel_rfl) rfl (by kernel_rfl) (by kernel_rfl) (fun _ _ _ h => h) ?_
                  refine GA.take 4 #[true, true, true, true, false, false, false, false, false, false, false, false, false, false, false, false, false, false] rfl (by exact Ev.move rfl) rfl rfl (by kernel_rfl) rfl (by kernel_rfl) (by kernel_rfl) (fun _ _ _ h => h) ?_
                  refine GA.branch (rs := [2]) (JOk.live (by exact Wlba) (JOk.live (by exact Wlba) JOk.nil)) (by kernel_rfl) (by simp) ?_
                  refine GAs.cons rfl ?_ ?_
                  · -- FfFTF op 2
                    refine GL.call rfl rfl (Tr.len2 (evenL (gr ms12) k ms12.length) (by simp) (iMeaningOf_spec _ _ _ _ _ (by first | assumption | exact RdG.imp (by assumption) Wim | exact RdG.of_pick Wpk Wpk) _ _ (evenL (gr ms12) k ms12.length) Wrd (by omega) (by simp; omega))) ?_
                    rintro _ _ ⟨B56, d56, rfl, rfl⟩
                    refine GL.nil ?_
                    refine GE.any ?_
                    refine GA.branch (rs := [5]) (JOk.live (by exact Wlba) (JOk.dead (by kernel_rfl) JOk.nil)) (by kernel_rfl) (by simp) ?_
                    refine GAs.cons rfl ?_ ?_
                    · -- FfFTF op 5
                      refine GL.call rfl rfl (Tr.len2 (evenL (gr ms12) k ms12.length) (by simp) (iMeaningOf_spec _ _ _ _ _ (by first | assumption | exact RdG.imp (by assumption) Wim | exact RdG.of_pick Wpk Wpk) _ _ (evenL (gr ms12) k ms12.length) Wrd (by omega) (by simp; omega))) ?_
                      rintro _ _ ⟨B59, d59, rfl, rfl⟩
                      refine GL.nil ?_
                      refine GE.any ?_
                      refine GA.branch (rs := [6]) (JOk.dead (by kernel_rfl) (JOk.dead (by kernel_rfl) JOk.nil)) (by kernel_rfl) (by simp) ?_
                      refine GAs.cons rfl ?_ ?_
                      · -- FfFTF op 6
                        refine GL.callF rfl rfl (equalInts_spec _ _ _ _ _ Wrd _ _ _ Wrd Wom) ?_
                        refine GL.nil ?_
                        refine GE.any ?_
                        refine GA.take 7 #[true, true, true, true, true, true, true, false, false, false, false, false, false, false, false, false, false, false] rfl (by exact Ev.not rfl) rfl rfl (by kernel_rfl) rfl (by kernel_rfl) (by kernel_rfl) (fun _ _ _ h => h) ?_
                        refine GA.take 8 #[true, true, true, true, true, true, true, true, false, false, false, false, false, false, false, false, false, false] rfl (by exact Ev.move rfl) rfl rfl (by kernel_rfl) rfl (by kernel_rfl) (by kernel_rfl) (fun _ _ _ h => h) ?_
                        first | refine GA.split_dec (d := 62) rfl (fun h6 => ?_) (fun h6 => ?_) | refine GA.split_ndec (d := 62) rfl (fun h6 => ?_) (fun h6 => ?_) | refine GA.split (d := 62) rfl (fun h6 => ?_) (fun h6 => ?_)
                        · -- FfFTFt
                          refine absurd ?_ h6
                          rw [meanOfL_yes hev, meanOfL_yes hev2]
                          exact hmg
                        · -- FfFTFf
                          refine GA.read_want 9 #[true, true, true, true, true, true, true, true, true, false, true, false, true, true, false, false, false, false] rfl rfl rfl (by exact Wlba) rfl (by kernel_rfl) rfl (by kernel_rfl) (by kernel_rfl) (fun _ _ _ h => h) ?_
                          refine GA.take_want 10 #[true, true, true, true, true, true, true, true, true, true, false, false, true, true, false, false, false, false] rfl rfl rfl (by exact Ev.move rfl) rfl (by kernel_rfl) rfl (by kernel_rfl) (by kernel_rfl) (fun _ _ _ h => h) ?_
                          refine GA.read_want 12 #[true, true, true, true, true, true, true, true, true, true, true, true, false, true, false, false, false, false] rfl rfl rfl (by exact Wlba) rfl (by kernel_rfl) rfl (by kernel_rfl) (by kernel_rfl) (fun _ _ _ h => h) ?_
                          refine GA.take_want 13 #[true, true, true, true, true, true, true, true, true, true, true, true, true, false, false, false, false, false] rfl rfl rfl (by exact Ev.move rfl) rfl (by kernel_rfl) rfl (by kernel_rfl) (by kernel_rfl) (fun _ _ _ h => h) ?_
                          refine GA.branch (rs := [11]) (JOk.live (by exact Wlba) (JOk.live (by exact Wlba) (JOk.dead (by kernel_rfl) (JOk.dead (by kernel_rfl) JOk.nil)))) (by kernel_rfl) (by simp) ?_
                          refine GAs.cons rfl ?_ ?_
                          · -- FfFTFf op 11
                            refine GL.want rfl rfl ?_
                            refine GL.call rfl rfl (Tr.len2 (evenL (gr ms12) k ms12.length) (by simp) (iDepsOf_spec _ _ _ _ _ (by first | assumption | exact RdG.imp (by assumption) Wim | exact RdG.of_pick Wpk Wpk) _ _ (evenL (gr ms12) k ms12.length) Wrd (by omega) (by simp; omega))) ?_
                            rintro _ _ ⟨B65, d65, ls65, hli65, rfl, rfl⟩
                            have hZ65 := sizeLs_deps hli65
                            refine GL.nil ?_
                            refine GE.any ?_
                            refine GA.branch (rs := [14]) (JOk.live (by exact Wlba) (JOk.dead (by kernel_rfl) (JOk.dead (by kernel_rfl) (JOk.dead (by kernel_rfl) JOk.nil)))) (by kernel_rfl) (by simp) ?_
                            refine GAs.cons rfl ?_ ?_
                            · -- FfFTFf op 14
                              refine GL.want rfl rfl ?_
                              refine GL.call rfl rfl (Tr.len2 (evenL (gr ms12) k ms12.length) (by simp) (iDepsOf_spec _ _ _ _ _ (by first | assumption | exact RdG.imp (by assumption) Wim | exact RdG.of_pick Wpk Wpk) _ _ (evenL (gr ms12) k ms12.length) Wrd (by omega) (by simp; omega))) ?_
                              rintro _ _ ⟨B68, d68, ls68, hli68, rfl, rfl⟩
                              have hZ68 := sizeLs_deps hli68
                              refine GL.nil ?_
                              refine GE.any ?_
                              refine GA.branch (rs := [15]) (JOk.dead (by kernel_rfl) (JOk.dead (by kernel_rfl) (JOk.dead (by kernel_rfl) (JOk.dead (by kernel_rfl) JOk.nil)))) (by kernel_rfl) (by simp) ?_
                              refine GAs.cons rfl ?_ ?_
                              · -- FfFTFf op 15
                                refine GL.want rfl rfl ?_
                                refine GL.callF rfl rfl (equalLists_spec _ _ _ _ _ (by first | assumption | exact RdLs.imp (by assumption) Wim | exact RdLs.of_pick Wpk Wpk) _ _ _ (by first | assumption | exact RdLs.imp (by assumption) Wim | exact RdLs.of_pick Wpk Wpk) (by assumption)) ?_
                                refine GL.nil ?_
                                refine GE.any ?_
                                refine GA.take_want 16 #[true, true, true, true, true, true, true, true, true, true, true, true, true, true, true, true, false, false] rfl rfl rfl (by exact Ev.not rfl) rfl (by kernel_rfl) rfl (by kernel_rfl) (by kernel_rfl) (fun _ _ _ h => h) ?_
                                refine GA.take 17 #[true, true, true, true, true, true, true, true, true, true, true, true, true, true, true, true, true, false] rfl (by exact Ev.pick_false rfl rfl) rfl rfl (by kernel_rfl) rfl (by kernel_rfl) (by kernel_rfl) (fun _ _ _ h => h) ?_
                                refine GA.done (JOk.dead (by kernel_rfl) (JOk.dead (by kernel_rfl) (JOk.dead (by kernel_rfl) (JOk.dead (by kernel_rfl) JOk.nil)))) (by kernel_rfl) ?_
                                refine GE.seq ?_
                                refine GC.ifs (fun h7 => ?_) (fun h7 => ?_)
                                · -- FfFTFfT
                                  refine absurd ?_ h7
                                  rw [hli65, hli68, depsOfL_yes hev, depsOfL_yes hev2]
                                  exact hdg
                                · -- FfFTFfF
                                  refine GC.skip ?_
                                  refine GE.block ?_
                                  refine GE.seq ?_
                                  refine GC.region ?_
                                  refine GL.v Wmv ?_
                                  refine GL.v Wad ?_
                                  refine GL.v Wag ?_
                                  refine GL.nil ?_
                                  -- round of loop 1, path FfFTFfF
                                  refine GE.round (k + 5) (by omega) (by omega) Wkp Wsb
                              exact GAs.nil
                            exact GAs.nil
                          exact GAs.nil
                      exact GAs.nil
                    exact GAs.nil
                  exact GAs.nil
              · -- FfFF
                refine GC.exit ?_
                refine GE.seq_exit ?_
                refine GE.loop_exit ?_
                refine GE.block_exit ?_
                refine GE.seq ?_
                refine GC.seq ?_
                refine GC.region_any #[false, true, false, false, true, false, true, false, false] mixed ?_
                refine GA.read 0 #[false, false, false, false, false, false, false, false, false] rfl (by exact Wlba) rfl rfl (by kernel_rfl) rfl (by kernel_rfl) (by kernel_rfl) (fun _ _ _ h => h) ?_
                refine GA.branch (rs := [1]) (JOk.live (by exact Wlba) JOk.nil) (by kernel_rfl) (by simp) ?_
                refine GAs.cons rfl ?_ ?_
                · -- FfFF op 1
                  refine GL.callF rfl rfl (iValidGraph_spec _ _ _ _ _ (by first | assumption | exact RdG.imp (by assumption) Wim | exact RdG.of_pick Wpk Wpk) (by first | omega | exact SizeG.le (by assumption))) ?_
                  refine GL.nil ?_
                  refine GE.any ?_
                  refine GA.take 2 #[true, true, false, false, false, false, false, false, false] rfl (by exact Ev.move rfl) rfl rfl (by kernel_rfl) rfl (by kernel_rfl) (by kernel_rfl) (fun _ _ _ h => h) ?_
                  first | refine GA.split_dec (d := 74) rfl (fun h5 => ?_) (fun h5 => ?_) | refine GA.split_ndec (d := 74) rfl (fun h5 => ?_) (fun h5 => ?_) | refine GA.split (d := 74) rfl (fun h5 => ?_) (fun h5 => ?_)
                  · -- FfFFt
                    refine GA.read_want 3 #[true, true, true, false, false, true, false, false, false] rfl rfl rfl (by exact Wlba) rfl (by kernel_rfl) rfl (by kernel_rfl) (by kernel_rfl) (fun _ _ _ h => h) ?_
                    refine GA.read_want 5 #[true, true, true, true, true, false, false, false, false] rfl rfl rfl (by exact Wlba) rfl (by kernel_rfl) rfl (by kernel_rfl) (by kernel_rfl) (fun _ _ _ h => h) ?_
                    refine GA.branch (rs := [4]) (JOk.live (by exact Wlba) (JOk.live (by exact Wlba) (JOk.dead (by kernel_rfl) JOk.nil))) (by kernel_rfl) (by simp) ?_
                    refine GAs.cons rfl ?_ ?_
                    · -- FfFFt op 4
                      refine GL.want rfl rfl ?_
                      refine GL.call rfl rfl (iFoldGraph_spec _ _ _ _ _ (by first | assumption | exact RdG.imp (by assumption) Wim | exact RdG.of_pick Wpk Wpk) (by assumption)) ?_
                      rintro _ _ ⟨B76, d76, ns76, hgr76, rfl, rfl⟩
                      have hZ76 := sizeG_fold hgr76
                      refine GL.nil ?_
                      refine GE.any ?_
                      refine GA.branch (rs := [6]) (JOk.live (by exact Wlba) (JOk.dead (by kernel_rfl) (JOk.dead (by kernel_rfl) JOk.nil))) (by kernel_rfl) (by simp) ?_
                      refine GAs.cons rfl ?_ ?_
                      · -- FfFFt op 6
                        refine GL.want rfl rfl ?_
                        refine GL.callF rfl rfl (equalGraph_spec _ _ _ _ _ (by first | assumption | exact RdG.imp (by assumption) Wim | exact RdG.of_pick Wpk Wpk) _ _ _ (by first | assumption | exact RdG.imp (by assumption) Wim | exact RdG.of_pick Wpk Wpk) (by assumption)) ?_
                        refine GL.nil ?_
                        refine GE.any ?_
                        refine GA.take 7 #[true, true, true, true, true, true, true, false, false] rfl (by exact Ev.pick_true rfl rfl) rfl rfl (by kernel_rfl) rfl (by kernel_rfl) (by kernel_rfl) (fun _ _ _ h => h) ?_
                        refine GA.take 8 #[true, true, true, true, true, true, true, true, false] rfl (by exact Ev.assign rfl) rfl rfl (by kernel_rfl) rfl (by kernel_rfl) (by kernel_rfl) (fun _ _ _ h => h) ?_
                        refine GA.done (JOk.dead (by kernel_rfl) (JOk.dead (by kernel_rfl) (JOk.dead (by kernel_rfl) JOk.nil))) (by kernel_rfl) ?_
                        refine GE.seq ?_
                        refine GC.ret ?_
                        -- returns, path FfFFt
                        refine GE.ret_tmp (L' := L) (.inl rfl) rfl rfl Wsb ?_
                        exact ⟨by rw [decide_eq_true (by rw [hgr76, hgf]; exact folG_again hV)], rfl⟩
                      exact GAs.nil
                    exact GAs.nil
                  · -- FfFFf
                    have hvf := validG_iff.2 (folG_valid hV)
                    rw [← hgf, h5] at hvf
                    cases hvf
                exact GAs.nil
          exact GAs.nil
      exact GAs.nil
    exact GAs.nil
theorem fnFoldGraph_calls {H : Type} {enc : TypeId × Value → H} {W : World} {base : Nat} {args : Array Value} {ds : List (DataW H)} {p : List MemPlace} (hval : ∀ (j : Nat) t v, Try.f12.params[j]? = some t → args[j]? = some v → Value.okWide Try.prog W .any base t v)
    (hA : DataW.TrodAll enc Try.prog W 0 (fun _ => true) true Try.f12.params.toList args.toList ds p) : Tr Try.prog 12 args W [] (fun v L' => v = .bool true ∧ L' = []) := by
  rw [Try.params12] at hA hval
  obtain ⟨v0, vs0, d0, ds0, p0, q0, hargs, rfl, rfl, h0, r0⟩ := trodAll_cons hA
  obtain ⟨rfl, rfl, rfl⟩ := trodAll_nil r0
  obtain rfl : args = #[v0] := by cases args; simp_all
  obtain ⟨A, c, bs, rfl, hR, hb⟩ := arg_sl (E := byteE) (st := 22) (by kernel_rfl) (opens_bytes W) (hval 0 _ v0 rfl rfl) h0
  exact FnFoldGraph_spec W [] A c bs hR (fun x hx => wf_u8 (hb x hx))
theorem fnFoldGraph_lifted (os : Os) (started : os.Started) (H : Type) (enc : TypeId × Value → H) :
    ReturnsInHanded {} Try.checked os 12 .any (Ytojffodplphlaaa.Rows.fnFoldGraphSpec.pre6 enc Try.prog Try.f12 Ytojffodplphlaaa.Rows.fnFoldGraphRow.domain false) (Ytojffodplphlaaa.Rows.fnFoldGraphSpec.post enc Try.prog Try.f12 false true false false) := by
  refine returnsInHanded_of_change (C := Try.checked) own started (by kernel_rfl) Try.func12
    (ChangeSpec.witness6 (enc := enc) (C := Try.checked) false ⟨#[], #[.slice none 0 0], []⟩ 8 (by kernel_rfl) (by kernel_rfl) (by kernel_rfl) (by kernel_rfl)) ?_
  intro W base args ds gs before hval0 hW hcnd _
  have hval : ∀ (j : Nat) t v, Try.f12.params[j]? = some t → args[j]? = some v → Value.okWide Try.prog W .any base t v := hval0
  have hW' := hW
  obtain ⟨p, q, hA0, _⟩ := hW
  have hA : DataW.TrodAll enc Try.prog W 0 (fun _ => true) true Try.f12.params.toList args.toList ds p := hA0
  have hlen : ds.length = Try.f12.params.toList.length := trodAll_len hA
  rw [Try.params12] at hlen
  refine ((fnFoldGraph_calls hval hA).go W (St.start W)).mono ?_
  rintro e W' ⟨v, L', ⟨rfl, rfl⟩, rfl, hs⟩
  exact ⟨_, rfl, law_post kids full (by rw [Try.params12]; decide) hW' rfl (fun hg => by subst hg; match ds, hlen with | [_], _ => exact bool_res) (fun hg => by subst hg; match ds, hlen with | [_], _ => rfl) (fun hg => by subst hg; match ds, hlen with | [_], _ => rfl) hs.below⟩
theorem fnFoldGraph_over : Ytojffodplphlaaa.Rows.fnFoldGraphRow.holds Try.pinned (OpenSpec.ofChange Ytojffodplphlaaa.Rows.fnFoldGraphSpec) :=
  OpenClaim.holds_of_wide 12 Try.f12 rfl rfl rfl rfl rfl rfl rfl ⟨rfl, rfl, rfl, rfl, rfl⟩ rfl rfl rfl rfl rfl (by kernel_rfl) Try.func12 (by kernel_rfl)
    (of_decide_eq_true (by kernel_rfl)) (by unfold Func.isWrapper; first | (rw [if_pos (by decide +kernel)]; kernel_rfl) | (rw [if_neg (by decide +kernel)]; exact ⟨rfl, rfl⟩))
    (fun os started H enc _ => fnFoldGraph_lifted os started H enc)
end SG
namespace Go.Proofs.Ytojffodplphlaaa
theorem fnFoldGraph_proved : Rows.FnFoldGraphSaid := SG.fnFoldGraph_over
end Go.Proofs.Ytojffodplphlaaa
#print axioms Go.Proofs.Ytojffodplphlaaa.fnFoldGraph_proved
