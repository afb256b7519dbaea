/- The law FnReachOf holds for every input. -/
import Derived.Test.YtphapjfhcbledaaD13
import Derived.Test.YtphapjfhcbledaaD15
import Derived.Test.YtphapjfhcbledaaD19
import Derived.Test.YtphapjfhcbledaaD20
import Derived.Test.YtphapjfhcbledaaD21
import Derived.Test.YtphapjfhcbledaaD22
import Derived.Test.YtphapjfhcbledaaPlain11
import Derived.Test.YtphapjfhcbledaaRows
namespace SG
open Go Go.RowKit Go.Proofs Go.Proofs.Ytphapjfhcbledaa Go.ChangeShapes Go.WideShapes Go.Deep
set_option linter.unusedVariables false
set_option linter.unusedSimpArgs false
set_option maxRecDepth 100000
theorem FnReachOf_spec (w0 : World) (L : List Asn) (A : Option Addr) (c : Nat) (bs : List Int) (hR : Rd w0 [] byteE A c bs) (hb : ∀ x ∈ bs, 0 ≤ x ∧ x ≤ 255) :
    Tr Try.prog 6 #[.slice A bs.length c] w0 L (fun v L' => v = .bool true ∧ L' = L) := by
  refine Tr.rd_cap (hR.imp Imp.nil) fun hc1 hc2 => ?_
  refine Tr.enter (args := [.slice A bs.length c]) Try.func6 Try.ntmps6 rfl rfl ?_
  refine GC.seq ?_
  refine GC.region ?_
  refine GL.v Wag ?_
  refine GL.nil ?_
  refine GE.seq ?_
  refine GC.seq ?_
  refine GC.seq ?_
  refine GC.region ?_
  refine GL.v Wmv ?_
  refine GL.v Wln ?_
  refine GL.v Wgt ?_
  refine GL.nil ?_
  refine GE.seq ?_
  refine GC.ifs (fun h1 => ?_) (fun h1 => ?_)
  · -- T
    refine GC.seq ?_
    refine GC.region ?_
    refine GL.v Wag ?_
    refine GL.nil ?_
    refine GE.seq ?_
    refine GC.ret ?_
    refine GE.seq_ret ?_
    -- returns, path T
    refine GE.ret_tmp (L' := L) (.inl rfl) rfl rfl Wsb ?_
    exact ⟨rfl, rfl⟩
  · -- F
    refine GC.skip ?_
    refine GE.seq ?_
    refine GC.seq ?_
    refine GC.region ?_
    refine GL.v Wmv ?_
    refine GL.call rfl rfl (DrawReachOf_spec _ _ _ _ _ (by assumption) (by assumption) (by omega) (by omega)) ?_
    rintro _ _ ⟨D12, e12, ms12, n12, rfl, ms12a, ms12b, ms12c, n12a, n12b, rfl⟩
    have hS12 := SizeG.small ms12b ms12c
    have hten := reachOfL_ten (gr ms12) n12
    have hasc : Asc (reachOfL (gr ms12) n12) := onlyL_asc _ _ _
    refine GL.v Wmv ?_
    refine GL.v Wxt ?_
    refine GL.v Wxt ?_
    refine GL.alloc rfl ?_; intro g3
    refine GL.store_varN rfl rfl rfl Wpk (by rfl) (by rfl) (by rfl) ?_
    refine GL.v Wag ?_
    refine GL.nil ?_
    refine GE.seq ?_
    refine GC.seq ?_
    refine GC.region ?_
    refine GL.v Wlba ?_
    refine GL.v Wmv ?_
    refine GL.call rfl rfl (iReachOf_spec _ _ _ _ _ (by first | assumption | exact RdG.imp (by assumption) Wim | exact RdG.of_pick Wpk Wpk) (by first | omega | exact SizeG.le (by assumption)) _) ?_
    rintro _ _ ⟨B17, d17, rfl, rfl⟩
    refine GL.v Wag ?_
    refine GL.nil ?_
    refine GE.seq ?_
    refine GC.seq ?_
    refine GC.seq ?_
    refine GC.region ?_
    refine GL.v Wmv ?_
    refine GL.v Wlba ?_
    refine GL.v Wmv ?_
    refine GL.call rfl rfl (sReachOf_spec _ _ _ _ _ (by first | assumption | exact RdG.imp (by assumption) Wim | exact RdG.of_pick Wpk Wpk) (by assumption) _) ?_
    rintro _ _ ⟨B21, d21, rfl, rfl⟩
    refine GL.callF rfl rfl (equalInts_spec _ _ _ _ _ Wrd _ _ _ Wrd Wom) ?_
    refine GL.v Wnt ?_
    refine GL.v Wmv ?_
    refine GL.gs (fun h2 => ?_) (fun h2 => ?_)
    · -- Ft
      exact absurd rfl h2
    · -- Ff
      refine GL.want rfl rfl ?_
      refine GL.v Wmv ?_
      refine GL.want rfl rfl ?_
      refine GL.v Wln ?_
      refine GL.want rfl rfl ?_
      refine GL.v Weq ?_
      refine GL.v Wpf ?_
      refine GL.nil ?_
      refine GE.seq ?_
      refine GC.ifs (fun h3 => ?_) (fun h3 => ?_)
      · -- FfT
        refine GC.seq ?_
        refine GC.region ?_
        refine GL.v Wmv ?_
        refine GL.v Wlba ?_
        refine GL.v Wmv ?_
        refine GL.call rfl rfl (sReachOf_spec _ _ _ _ _ (by first | assumption | exact RdG.imp (by assumption) Wim | exact RdG.of_pick Wpk Wpk) (by assumption) _) ?_
        rintro _ _ ⟨B32, d32, rfl, rfl⟩
        refine GL.callF rfl rfl (equalInts_spec _ _ _ _ _ Wrd _ _ _ Wrd Wom) ?_
        refine GL.v Wag ?_
        refine GL.nil ?_
        refine GE.seq ?_
        refine GC.ret ?_
        refine GE.seq_ret ?_
        -- returns, path FfT
        refine GE.ret_tmp (L' := L) (.inl rfl) rfl rfl Wsb ?_
        exact ⟨by simp, rfl⟩
      · -- FfF
        have hs := onlyL_some (gs := gr ms12) (n := n12) (p := reachB (gr ms12) n12.toNat) (fun e => h3 (by show (((onlyL (gr ms12) n12 (reachB (gr ms12) n12.toNat)).length : Nat) : Int) = 0; rw [e]; rfl))
        obtain ⟨hvg, hn0, hn1⟩ := hs
        have hn2 := hn1
        rw [gr_length] at hn2
        refine GC.skip ?_
        refine GE.seq ?_
        refine GC.seq ?_
        refine GC.seq ?_
        refine GC.region ?_
        refine GL.v Wag ?_
        refine GL.nil ?_
        refine GE.seq ?_
        refine GC.block ?_
        -- loop 1: carried slots [6]
        refine GC.loopK (α := Nat) (fun i => i ≤ ms12.length) (fun i => [(6, .int .i64 i)]) [(3, _), (4, _), (5, _)] (fun i => row intE B17 d17 (reachOfL (gr ms12) n12) :: blk g3 25 [.slice D12 ms12.length e12] :: row nodeE D12 e12 ms12 :: partsA ms12 :: L) (fun i => ms12.length - i) 0 Wkp Wsb (Nat.zero_le _) ?_
        rintro i hi
        refine GC.seq ?_
        refine GC.seq ?_
        refine GC.region ?_
        refine GL.v Wmv ?_
        refine GL.v Wfa ?_
        refine GL.v Wlb ?_
        refine GL.v Wln ?_
        refine GL.v Wls ?_
        refine GL.nil ?_
        refine GE.seq ?_
        refine GC.ifs (fun h4 => ?_) (fun h4 => ?_)
        · -- FfFT
          have hil : i < ms12.length := by omega
          have hig : i < (gr ms12).length := by simpa using hil
          have hul := usersL_ten (gr ms12) i
          have hni := needOfL_ten (gr ms12) i
          have hrc : (reachOfL (gr ms12) n12).contains (i : Int) = reachB (gr ms12) n12.toNat i := onlyL_contains hvg hn0 hn1 hig
          have hnc : (needOfL (gr ms12) i).contains n12 = reachB (gr ms12) n12.toNat i := by
            have := onlyL_contains (p := fun j => reachB (gr ms12) j ((i : Int)).toNat) hvg (show (0 : Int) ≤ i by omega) (by omega) (i := n12.toNat) (by omega)
            rw [show ((n12.toNat : Nat) : Int) = n12 by omega] at this
            exact this
          refine GC.skip ?_
          refine GE.seq ?_
          refine GC.seq ?_
          refine GC.block ?_
          refine GC.seq ?_
          refine GC.region_any #[false, false, true, false, false, false, true, false, true, false, false, false, false, false, true, false, false, true, false, true, false, false] mixed ?_
          refine GA.take 0 #[false, true, false, false, false, false, false, false, false, false, false, false, false, false, false, false, false, false, false, false, false, false] rfl (by exact Ev.move rfl) rfl rfl (by kernel_rfl) rfl (by kernel_rfl) (by kernel_rfl) (fun _ _ _ h => h) ?_
          refine GA.take 1 #[true, false, false, false, false, false, false, false, false, false, false, false, false, false, false, false, false, false, false, false, false, false] rfl (by exact Ev.move rfl) rfl rfl (by kernel_rfl) rfl (by kernel_rfl) (by kernel_rfl) (fun _ _ _ h => h) ?_
          refine GA.branch (rs := [2]) JOk.nil (by kernel_rfl) (by simp) ?_
          refine GAs.cons rfl ?_ ?_
          · -- FfFT op 2
            refine GL.callF rfl rfl (isIn_spec _ _ _ _ _ Wrd _ Wom) ?_
            refine GL.nil ?_
            refine GE.any ?_
            refine GA.take 3 #[true, true, true, false, false, false, false, false, false, false, false, false, false, false, false, false, false, false, false, false, false, false] rfl (by exact Ev.move rfl) rfl rfl (by kernel_rfl) rfl (by kernel_rfl) (by kernel_rfl) (fun _ _ _ h => h) ?_
            first | refine GA.split_dec (d := 44) rfl (fun h5 => ?_) (fun h5 => ?_) | refine GA.split_ndec (d := 44) rfl (fun h5 => ?_) (fun h5 => ?_) | refine GA.split (d := 44) rfl (fun h5 => ?_) (fun h5 => ?_)
            · -- FfFTt
              have hwi := users_reach hvg hn0 hn1 hig (by rw [← hrc]; exact h5)
              refine GA.read_want 4 #[true, true, true, true, false, true, false, true, false, false, false, false, false, false, false, false, false, false, false, false, false, false] rfl rfl rfl (by exact Wlba) rfl (by kernel_rfl) rfl (by kernel_rfl) (by kernel_rfl) (fun _ _ _ h => h) ?_
              refine GA.take_want 5 #[true, true, true, true, true, false, false, true, false, false, false, false, false, false, false, false, false, false, false, false, false, false] rfl rfl rfl (by exact Ev.move rfl) rfl (by kernel_rfl) rfl (by kernel_rfl) (by kernel_rfl) (fun _ _ _ h => h) ?_
              refine GA.take_want 7 #[true, true, true, true, true, true, true, false, false, false, false, false, false, false, false, false, false, false, false, false, false, false] rfl rfl rfl (by exact Ev.move rfl) rfl (by kernel_rfl) rfl (by kernel_rfl) (by kernel_rfl) (fun _ _ _ h => h) ?_
              refine GA.branch (rs := [6]) (JOk.live (by exact Wlba) JOk.nil) (by kernel_rfl) (by simp) ?_
              refine GAs.cons rfl ?_ ?_
              · -- FfFTt op 6
                refine GL.want rfl rfl ?_
                refine GL.call rfl rfl (iUsersOf_spec _ _ _ _ _ (by first | assumption | exact RdG.imp (by assumption) Wim | exact RdG.of_pick Wpk Wpk) (by first | omega | exact SizeG.le (by assumption)) _) ?_
                rintro _ _ ⟨B47, d47, rfl, rfl⟩
                refine GL.nil ?_
                refine GE.any ?_
                refine GA.branch (rs := [8]) (JOk.dead (by kernel_rfl) JOk.nil) (by kernel_rfl) (by simp) ?_
                refine GAs.cons rfl ?_ ?_
                · -- FfFTt op 8
                  refine GL.want rfl rfl ?_
                  refine GL.callF rfl rfl (within_spec _ _ _ _ _ Wrd _ _ _ Wrd Wom Wom (by assumption)) ?_
                  refine GL.nil ?_
                  refine GE.any ?_
                  refine GA.take_want 9 #[true, true, true, true, true, true, true, true, true, false, false, false, false, false, false, false, false, false, false, false, false, false] rfl rfl rfl (by exact Ev.not rfl) rfl (by kernel_rfl) rfl (by kernel_rfl) (by kernel_rfl) (fun _ _ _ h => h) ?_
                  refine GA.take 10 #[true, true, true, true, true, true, true, true, true, true, false, false, false, false, false, false, false, false, false, false, false, false] rfl (by exact Ev.pick_true rfl rfl) rfl rfl (by kernel_rfl) rfl (by kernel_rfl) (by kernel_rfl) (fun _ _ _ h => h) ?_
                  refine GA.take 11 #[true, true, true, true, true, true, true, true, true, true, true, false, false, false, false, false, false, false, false, false, false, false] rfl (by exact Ev.move rfl) rfl rfl (by kernel_rfl) rfl (by kernel_rfl) (by kernel_rfl) (fun _ _ _ h => h) ?_
                  first | refine GA.split_dec (d := 52) rfl (fun h6 => ?_) (fun h6 => ?_) | refine GA.split_ndec (d := 52) rfl (fun h6 => ?_) (fun h6 => ?_) | refine GA.split (d := 52) rfl (fun h6 => ?_) (fun h6 => ?_)
                  · -- FfFTtt
                    cases h6
                  · -- FfFTtf
                    refine GA.take_want 12 #[true, true, true, true, true, true, true, true, true, true, true, true, false, true, false, true, true, false, true, false, false, false] rfl rfl rfl (by exact Ev.move rfl) rfl (by kernel_rfl) rfl (by kernel_rfl) (by kernel_rfl) (fun _ _ _ h => h) ?_
                    refine GA.take_want 13 #[true, true, true, true, true, true, true, true, true, true, true, true, true, false, false, true, true, false, true, false, false, false] rfl rfl rfl (by exact Ev.move rfl) rfl (by kernel_rfl) rfl (by kernel_rfl) (by kernel_rfl) (fun _ _ _ h => h) ?_
                    refine GA.read_want 15 #[true, true, true, true, true, true, true, true, true, true, true, true, true, true, true, false, true, false, true, false, false, false] rfl rfl rfl (by exact Wlba) rfl (by kernel_rfl) rfl (by kernel_rfl) (by kernel_rfl) (fun _ _ _ h => h) ?_
                    refine GA.take_want 16 #[true, true, true, true, true, true, true, true, true, true, true, true, true, true, true, true, false, false, true, false, false, false] rfl rfl rfl (by exact Ev.move rfl) rfl (by kernel_rfl) rfl (by kernel_rfl) (by kernel_rfl) (fun _ _ _ h => h) ?_
                    refine GA.take_want 18 #[true, true, true, true, true, true, true, true, true, true, true, true, true, true, true, true, true, true, false, false, false, false] rfl rfl rfl (by exact Ev.move rfl) rfl (by kernel_rfl) rfl (by kernel_rfl) (by kernel_rfl) (fun _ _ _ h => h) ?_
                    refine GA.branch (rs := [14]) (JOk.live (by exact Wlba) (JOk.dead (by kernel_rfl) JOk.nil)) (by kernel_rfl) (by simp) ?_
                    refine GAs.cons rfl ?_ ?_
                    · -- FfFTtf op 14
                      refine GL.want rfl rfl ?_
                      refine GL.callF rfl rfl (isIn_spec _ _ _ _ _ Wrd _ Wom) ?_
                      refine GL.nil ?_
                      refine GE.any ?_
                      refine GA.branch (rs := [17]) (JOk.live (by exact Wlba) (JOk.dead (by kernel_rfl) JOk.nil)) (by kernel_rfl) (by simp) ?_
                      refine GAs.cons rfl ?_ ?_
                      · -- FfFTtf op 17
                        refine GL.want rfl rfl ?_
                        refine GL.call rfl rfl (iNeedOf_spec _ _ _ _ _ (by first | assumption | exact RdG.imp (by assumption) Wim | exact RdG.of_pick Wpk Wpk) (by first | omega | exact SizeG.le (by assumption)) _) ?_
                        rintro _ _ ⟨B58, d58, rfl, rfl⟩
                        refine GL.nil ?_
                        refine GE.any ?_
                        refine GA.branch (rs := [19]) (JOk.dead (by kernel_rfl) (JOk.dead (by kernel_rfl) JOk.nil)) (by kernel_rfl) (by simp) ?_
                        refine GAs.cons rfl ?_ ?_
                        · -- FfFTtf op 19
                          refine GL.want rfl rfl ?_
                          refine GL.callF rfl rfl (isIn_spec _ _ _ _ _ Wrd _ Wom) ?_
                          refine GL.nil ?_
                          refine GE.any ?_
                          refine GA.take_want 20 #[true, true, true, true, true, true, true, true, true, true, true, true, true, true, true, true, true, true, true, true, false, false] rfl rfl rfl (by exact Ev.neq_bool rfl rfl) rfl (by kernel_rfl) rfl (by kernel_rfl) (by kernel_rfl) (fun _ _ _ h => h) ?_
                          refine GA.take 21 #[true, true, true, true, true, true, true, true, true, true, true, true, true, true, true, true, true, true, true, true, true, false] rfl (by exact Ev.pick_false rfl rfl) rfl rfl (by kernel_rfl) rfl (by kernel_rfl) (by kernel_rfl) (fun _ _ _ h => h) ?_
                          refine GA.done (JOk.dead (by kernel_rfl) (JOk.dead (by kernel_rfl) JOk.nil)) (by kernel_rfl) ?_
                          refine GE.seq ?_
                          refine GC.ifs (fun h7 => ?_) (fun h7 => ?_)
                          · -- FfFTtfT
                            exact absurd (hrc.trans hnc.symm) h7
                          · -- FfFTtfF
                            refine GC.skip ?_
                            refine GE.block ?_
                            refine GE.seq ?_
                            refine GC.region ?_
                            refine GL.v Wmv ?_
                            refine GL.v Wad ?_
                            refine GL.v Wag ?_
                            refine GL.nil ?_
                            -- round of loop 1, path FfFTtfF
                            refine GE.round (i + 1) (by omega) (by omega) Wkp Wsb
                        exact GAs.nil
                      exact GAs.nil
                    exact GAs.nil
                exact GAs.nil
              exact GAs.nil
            · -- FfFTf
              refine GA.unwant 4 #[true, true, true, true, false, true, false, true, false, false, false, false, false, false, false, false, false, false, false, false, false, false] rfl rfl rfl rfl rfl (by kernel_rfl) rfl (by kernel_rfl) (by kernel_rfl) (fun _ _ _ h => h) ?_
              refine GA.unwant 5 #[true, true, true, true, true, false, false, true, false, false, false, false, false, false, false, false, false, false, false, false, false, false] rfl rfl rfl rfl rfl (by kernel_rfl) rfl (by kernel_rfl) (by kernel_rfl) (fun _ _ _ h => h) ?_
              refine GA.unwant 7 #[true, true, true, true, true, true, true, false, false, false, false, false, false, false, false, false, false, false, false, false, false, false] rfl rfl rfl rfl rfl (by kernel_rfl) rfl (by kernel_rfl) (by kernel_rfl) (fun _ _ _ h => h) ?_
              refine GA.branch (rs := [6]) JOk.nil (by kernel_rfl) (by simp) ?_
              refine GAs.cons rfl ?_ ?_
              · -- FfFTf op 6
                refine GL.unwant rfl rfl rfl rfl ?_
                refine GL.nil ?_
                refine GE.any ?_
                refine GA.branch (rs := [8]) JOk.nil (by kernel_rfl) (by simp) ?_
                refine GAs.cons rfl ?_ ?_
                · -- FfFTf op 8
                  refine GL.unwant rfl rfl rfl rfl ?_
                  refine GL.nil ?_
                  refine GE.any ?_
                  refine GA.unwant 9 #[true, true, true, true, true, true, true, true, true, false, false, false, false, false, false, false, false, false, false, false, false, false] rfl rfl rfl rfl rfl (by kernel_rfl) rfl (by kernel_rfl) (by kernel_rfl) (fun _ _ _ h => h) ?_
                  refine GA.take 10 #[true, true, true, true, true, true, true, true, true, true, false, false, false, false, false, false, false, false, false, false, false, false] rfl (by exact Ev.pick_false rfl rfl) rfl rfl (by kernel_rfl) rfl (by kernel_rfl) (by kernel_rfl) (fun _ _ _ h => h) ?_
                  refine GA.take 11 #[true, true, true, true, true, true, true, true, true, true, true, false, false, false, false, false, false, false, false, false, false, false] rfl (by exact Ev.move rfl) rfl rfl (by kernel_rfl) rfl (by kernel_rfl) (by kernel_rfl) (fun _ _ _ h => h) ?_
                  refine GA.take_want 12 #[true, true, true, true, true, true, true, true, true, true, true, true, false, true, false, true, true, false, true, false, false, false] rfl rfl rfl (by exact Ev.move rfl) rfl (by kernel_rfl) rfl (by kernel_rfl) (by kernel_rfl) (fun _ _ _ h => h) ?_
                  refine GA.take_want 13 #[true, true, true, true, true, true, true, true, true, true, true, true, true, false, false, true, true, false, true, false, false, false] rfl rfl rfl (by exact Ev.move rfl) rfl (by kernel_rfl) rfl (by kernel_rfl) (by kernel_rfl) (fun _ _ _ h => h) ?_
                  refine GA.read_want 15 #[true, true, true, true, true, true, true, true, true, true, true, true, true, true, true, false, true, false, true, false, false, false] rfl rfl rfl (by exact Wlba) rfl (by kernel_rfl) rfl (by kernel_rfl) (by kernel_rfl) (fun _ _ _ h => h) ?_
                  refine GA.take_want 16 #[true, true, true, true, true, true, true, true, true, true, true, true, true, true, true, true, false, false, true, false, false, false] rfl rfl rfl (by exact Ev.move rfl) rfl (by kernel_rfl) rfl (by kernel_rfl) (by kernel_rfl) (fun _ _ _ h => h) ?_
                  refine GA.take_want 18 #[true, true, true, true, true, true, true, true, true, true, true, true, true, true, true, true, true, true, false, false, false, false] rfl rfl rfl (by exact Ev.move rfl) rfl (by kernel_rfl) rfl (by kernel_rfl) (by kernel_rfl) (fun _ _ _ h => h) ?_
                  refine GA.branch (rs := [14]) (JOk.live (by exact Wlba) JOk.nil) (by kernel_rfl) (by simp) ?_
                  refine GAs.cons rfl ?_ ?_
                  · -- FfFTf op 14
                    refine GL.want rfl rfl ?_
                    refine GL.callF rfl rfl (isIn_spec _ _ _ _ _ Wrd _ Wom) ?_
                    refine GL.nil ?_
                    refine GE.any ?_
                    refine GA.branch (rs := [17]) (JOk.live (by exact Wlba) JOk.nil) (by kernel_rfl) (by simp) ?_
                    refine GAs.cons rfl ?_ ?_
                    · -- FfFTf op 17
                      refine GL.want rfl rfl ?_
                      refine GL.call rfl rfl (iNeedOf_spec _ _ _ _ _ (by first | assumption | exact RdG.imp (by assumption) Wim | exact RdG.of_pick Wpk Wpk) (by first | omega | exact SizeG.le (by assumption)) _) ?_
                      rintro _ _ ⟨B58, d58, rfl, rfl⟩
                      refine GL.nil ?_
                      refine GE.any ?_
                      refine GA.branch (rs := [19]) (JOk.dead (by kernel_rfl) JOk.nil) (by kernel_rfl) (by simp) ?_
                      refine GAs.cons rfl ?_ ?_
                      · -- FfFTf op 19
                        refine GL.want rfl rfl ?_
                        refine GL.callF rfl rfl (isIn_spec _ _ _ _ _ Wrd _ Wom) ?_
                        refine GL.nil ?_
                        refine GE.any ?_
                        refine GA.take_want 20 #[true, true, true, true, true, true, true, true, true, true, true, true, true, true, true, true, true, true, true, true, false, false] rfl rfl rfl (by exact Ev.neq_bool rfl rfl) rfl (by kernel_rfl) rfl (by kernel_rfl) (by kernel_rfl) (fun _ _ _ h => h) ?_
                        refine GA.take 21 #[true, true, true, true, true, true, true, true, true, true, true, true, true, true, true, true, true, true, true, true, true, false] rfl (by exact Ev.pick_false rfl rfl) rfl rfl (by kernel_rfl) rfl (by kernel_rfl) (by kernel_rfl) (fun _ _ _ h => h) ?_
                        refine GA.done (JOk.dead (by kernel_rfl) JOk.nil) (by kernel_rfl) ?_
                        refine GE.seq ?_
                        refine GC.ifs (fun h6 => ?_) (fun h6 => ?_)
                        · -- FfFTfT
                          exact absurd (hrc.trans hnc.symm) h6
                        · -- FfFTfF
                          refine GC.skip ?_
                          refine GE.block ?_
                          refine GE.seq ?_
                          refine GC.region ?_
                          refine GL.v Wmv ?_
                          refine GL.v Wad ?_
                          refine GL.v Wag ?_
                          refine GL.nil ?_
                          -- round of loop 1, path FfFTfF
                          refine GE.round (i + 1) (by omega) (by omega) Wkp Wsb
                      exact GAs.nil
                    exact GAs.nil
                  exact GAs.nil
                exact GAs.nil
              exact GAs.nil
          exact GAs.nil
        · -- FfFF
          refine GC.exit ?_
          refine GE.seq_exit ?_
          refine GE.loop_exit ?_
          refine GE.block_exit ?_
          refine GE.seq ?_
          refine GC.seq ?_
          refine GC.region ?_
          refine GL.v Wmv ?_
          refine GL.callF rfl rfl (ascends_spec _ _ _ _ _ Wrd Wom (by first | assumption | exact asc_mayL _)) ?_
          refine GL.v Wmv ?_
          refine GL.gs (fun h5 => ?_) (fun h5 => ?_)
          · -- FfFFt
            refine GL.want rfl rfl ?_
            refine GL.v Wmv ?_
            refine GL.want rfl rfl ?_
            refine GL.v Wix ?_
            refine GL.want rfl rfl ?_
            refine GL.v Wle ?_
            refine GL.want rfl rfl ?_
            refine GL.v Wmv ?_
            refine GL.want rfl rfl ?_
            refine GL.v Weq ?_
            refine GL.v Wpt ?_
            refine GL.v Wag ?_
            refine GL.nil ?_
            refine GE.seq ?_
            refine GC.ret ?_
            -- returns, path FfFFt
            refine GE.ret_tmp (L' := L) (.inl rfl) rfl rfl Wsb ?_
            exact ⟨by rw [decide_eq_true (reach_head (by omega))], rfl⟩
          · -- FfFFf
            cases h5
theorem fnReachOf_calls {H : Type} {enc : TypeId × Value → H} {W : World} {base : Nat} {args : Array Value} {ds : List (DataW H)} {p : List MemPlace} (hval : ∀ (j : Nat) t v, Try.f6.params[j]? = some t → args[j]? = some v → Value.okWide Try.prog W .any base t v)
    (hA : DataW.TrodAll enc Try.prog W 0 (fun _ => true) true Try.f6.params.toList args.toList ds p) : Tr Try.prog 6 args W [] (fun v L' => v = .bool true ∧ L' = []) := by
  rw [Try.params6] at hA hval
  obtain ⟨v0, vs0, d0, ds0, p0, q0, hargs, rfl, rfl, h0, r0⟩ := trodAll_cons hA
  obtain ⟨rfl, rfl, rfl⟩ := trodAll_nil r0
  obtain rfl : args = #[v0] := by cases args; simp_all
  obtain ⟨A, c, bs, rfl, hR, hb⟩ := arg_sl (E := byteE) (st := 22) (by kernel_rfl) (opens_bytes W) (hval 0 _ v0 rfl rfl) h0
  exact FnReachOf_spec W [] A c bs hR (fun x hx => wf_u8 (hb x hx))
theorem fnReachOf_lifted (os : Os) (started : os.Started) (H : Type) (enc : TypeId × Value → H) :
    ReturnsInHanded {} Try.checked os 6 .any (Ytphapjfhcbledaa.Rows.fnReachOfSpec.pre6 enc Try.prog Try.f6 Ytphapjfhcbledaa.Rows.fnReachOfRow.domain false) (Ytphapjfhcbledaa.Rows.fnReachOfSpec.post enc Try.prog Try.f6 false true false false) := by
  refine returnsInHanded_of_change (C := Try.checked) own started (by kernel_rfl) Try.func6
    (ChangeSpec.witness6 (enc := enc) (C := Try.checked) false ⟨#[], #[.slice none 0 0], []⟩ 8 (by kernel_rfl) (by kernel_rfl) (by kernel_rfl) (by kernel_rfl)) ?_
  intro W base args ds gs before hval0 hW hcnd _
  have hval : ∀ (j : Nat) t v, Try.f6.params[j]? = some t → args[j]? = some v → Value.okWide Try.prog W .any base t v := hval0
  have hW' := hW
  obtain ⟨p, q, hA0, _⟩ := hW
  have hA : DataW.TrodAll enc Try.prog W 0 (fun _ => true) true Try.f6.params.toList args.toList ds p := hA0
  have hlen : ds.length = Try.f6.params.toList.length := trodAll_len hA
  rw [Try.params6] at hlen
  refine ((fnReachOf_calls hval hA).go W (St.start W)).mono ?_
  rintro e W' ⟨v, L', ⟨rfl, rfl⟩, rfl, hs⟩
  exact ⟨_, rfl, law_post kids full (by rw [Try.params6]; decide) hW' rfl (fun hg => by subst hg; match ds, hlen with | [_], _ => exact bool_res) (fun hg => by subst hg; match ds, hlen with | [_], _ => rfl) (fun hg => by subst hg; match ds, hlen with | [_], _ => rfl) hs.below⟩
theorem fnReachOf_over : Ytphapjfhcbledaa.Rows.fnReachOfRow.holds Try.pinned (OpenSpec.ofChange Ytphapjfhcbledaa.Rows.fnReachOfSpec) :=
  OpenClaim.holds_of_wide 6 Try.f6 rfl rfl rfl rfl rfl rfl rfl ⟨rfl, rfl, rfl, rfl, rfl⟩ rfl rfl rfl rfl rfl (by kernel_rfl) Try.func6 (by kernel_rfl)
    (of_decide_eq_true (by kernel_rfl)) (by unfold Func.isWrapper; first | (rw [if_pos (by decide +kernel)]; kernel_rfl) | (rw [if_neg (by decide +kernel)]; exact ⟨rfl, rfl⟩))
    (fun os started H enc _ => fnReachOf_lifted os started H enc)
end SG
namespace Go.Proofs.Ytphapjfhcbledaa
theorem fnReachOf_proved : Rows.FnReachOfSaid := SG.fnReachOf_over
end Go.Proofs.Ytphapjfhcbledaa
#print axioms Go.Proofs.Ytphapjfhcbledaa.fnReachOf_proved
