/- The law FnFoldFormula holds for every input. -/
import Derived.Test.YtojffodplphlaaaD13
import Derived.Test.YtojffodplphlaaaD14
import Derived.Test.YtojffodplphlaaaD15
import Derived.Test.YtojffodplphlaaaD19
import Derived.Test.YtojffodplphlaaaD40
import Derived.Test.YtojffodplphlaaaD51
import Derived.Test.YtojffodplphlaaaRows
namespace SG
open Go Go.RowKit Go.Proofs Go.Proofs.Ytojffodplphlaaa Go.ChangeShapes Go.WideShapes Go.Deep
set_option linter.unusedVariables false
set_option linter.unusedSimpArgs false
set_option maxRecDepth 100000
theorem FnFoldFormula_spec (w0 : World) (L : List Asn) (A : Option Addr) (c : Nat) (bs : List Int) (hR : Rd w0 [] byteE A c bs) (hb : ∀ x ∈ bs, 0 ≤ x ∧ x ≤ 255) :
    Tr Try.prog 11 #[.slice A bs.length c] w0 L (fun v L' => v = .bool true ∧ L' = L) := by
  refine Tr.rd_cap (hR.imp Imp.nil) fun hc1 hc2 => ?_
  refine Tr.enter (args := [.slice A bs.length c]) Try.func11 Try.ntmps11 rfl rfl ?_
  refine GC.seq ?_
  refine GC.region ?_
  refine GL.v Wag ?_
  refine GL.nil ?_
  refine GE.seq ?_
  refine GC.seq ?_
  refine GC.seq ?_
  refine GC.region ?_
  refine GL.v Wmv ?_
  refine GL.v Wln ?_
  refine GL.v Wgt ?_
  refine GL.nil ?_
  refine GE.seq ?_
  refine GC.ifs (fun h1 => ?_) (fun h1 => ?_)
  · -- T
    refine GC.seq ?_
    refine GC.region ?_
    refine GL.v Wag ?_
    refine GL.nil ?_
    refine GE.seq ?_
    refine GC.ret ?_
    refine GE.seq_ret ?_
    -- returns, path T
    refine GE.ret_tmp (L' := L) (.inl rfl) rfl rfl Wsb ?_
    exact ⟨rfl, rfl⟩
  · -- F
    refine GC.skip ?_
    refine GE.seq ?_
    refine GC.seq ?_
    refine GC.region ?_
    refine GL.v Wmv ?_
    refine GL.call rfl rfl (DrawFoldFormula_spec _ _ _ _ _ (by assumption) (by assumption) (by omega) (by omega)) ?_
    rintro _ _ ⟨D16, e16, fp16, rfl, fp16a, fp16b, rfl⟩
    refine GL.alloc rfl ?_; intro g3
    refine GL.store_varN rfl rfl rfl Wpk (by rfl) (by rfl) (by rfl) ?_
    refine GL.nil ?_
    refine GE.seq ?_
    refine GC.seq ?_
    refine GC.region ?_
    refine GL.v Wlba ?_
    refine GL.call rfl rfl (iFoldFormula_spec _ _ _ _ _ Wrd) ?_
    rintro _ _ ⟨B18, d18, rfl, rfl⟩
    have htw := folF_twelve fp16
    refine GL.alloc rfl ?_; intro g4
    refine GL.store_varN rfl rfl rfl Wpk (by rfl) (by rfl) (by rfl) ?_
    refine GL.nil ?_
    refine GE.seq ?_
    refine GC.seq ?_
    refine GC.seq ?_
    refine GC.region_any #[false, false, true, true, false, false, false, true, false, false] mixed ?_
    refine GA.read 0 #[false, true, true, false, false, false, false, false, false, false] rfl (by exact Wlba) rfl rfl (by kernel_rfl) rfl (by kernel_rfl) (by kernel_rfl) (fun _ _ _ h => h) ?_
    refine GA.read 1 #[true, false, false, false, false, false, false, false, false, false] rfl (by exact Wlba) rfl rfl (by kernel_rfl) rfl (by kernel_rfl) (by kernel_rfl) (fun _ _ _ h => h) ?_
    refine GA.branch (rs := [2]) (JOk.live (by exact Wlba) (JOk.live (by exact Wlba) JOk.nil)) (by kernel_rfl) (by simp) ?_
    refine GAs.cons rfl ?_ ?_
    · -- F op 2
      refine GL.call rfl rfl (sFoldFormula_spec _ _ _ _ _ Wrd Wom) ?_
      rintro _ _ ⟨B21, d21, rfl, rfl⟩
      refine GL.nil ?_
      refine GE.any ?_
      refine GA.branch (rs := [3]) (JOk.dead (by kernel_rfl) (JOk.live (by exact Wlba) JOk.nil)) (by kernel_rfl) (by simp) ?_
      refine GAs.cons rfl ?_ ?_
      · -- F op 3
        refine GL.callF rfl rfl (equalFormula_spec _ _ _ _ _ Wrd _ _ _ Wrd Wom) ?_
        refine GL.nil ?_
        refine GE.any ?_
        refine GA.take 4 #[true, true, true, true, false, false, false, false, false, false] rfl (by exact Ev.not rfl) rfl rfl (by kernel_rfl) rfl (by kernel_rfl) (by kernel_rfl) (fun _ _ _ h => h) ?_
        refine GA.take 5 #[true, true, true, true, true, false, false, false, false, false] rfl (by exact Ev.move rfl) rfl rfl (by kernel_rfl) rfl (by kernel_rfl) (by kernel_rfl) (fun _ _ _ h => h) ?_
        first | refine GA.split_dec (d := 24) rfl (fun h2 => ?_) (fun h2 => ?_) | refine GA.split_ndec (d := 24) rfl (fun h2 => ?_) (fun h2 => ?_) | refine GA.split (d := 24) rfl (fun h2 => ?_) (fun h2 => ?_)
        · -- Ft
          exact absurd rfl h2
        · -- Ff
          refine GA.read_want 6 #[true, true, true, true, true, true, false, false, false, false] rfl rfl rfl (by exact Wlba) rfl (by kernel_rfl) rfl (by kernel_rfl) (by kernel_rfl) (fun _ _ _ h => h) ?_
          refine GA.branch (rs := [7]) (JOk.live (by exact Wlba) (JOk.dead (by kernel_rfl) (JOk.dead (by kernel_rfl) JOk.nil))) (by kernel_rfl) (by simp) ?_
          refine GAs.cons rfl ?_ ?_
          · -- Ff op 7
            refine GL.want rfl rfl ?_
            refine GL.callF rfl rfl (ValidFormula_spec _ _ _ _ _ Wrd) ?_
            refine GL.nil ?_
            refine GE.any ?_
            refine GA.take_want 8 #[true, true, true, true, true, true, true, true, false, false] rfl rfl rfl (by exact Ev.not rfl) rfl (by kernel_rfl) rfl (by kernel_rfl) (by kernel_rfl) (fun _ _ _ h => h) ?_
            refine GA.take 9 #[true, true, true, true, true, true, true, true, true, false] rfl (by exact Ev.pick_false rfl rfl) rfl rfl (by kernel_rfl) rfl (by kernel_rfl) (by kernel_rfl) (fun _ _ _ h => h) ?_
            refine GA.done (JOk.dead (by kernel_rfl) (JOk.dead (by kernel_rfl) (JOk.dead (by kernel_rfl) JOk.nil))) (by kernel_rfl) ?_
            refine GE.seq ?_
            refine GC.ifs (fun h3 => ?_) (fun h3 => ?_)
            · -- FfT
              refine GC.seq ?_
              refine GC.region_any #[false, false, true, true, false] mixed ?_
              refine GA.read 0 #[false, true, true, false, false] rfl (by exact Wlba) rfl rfl (by kernel_rfl) rfl (by kernel_rfl) (by kernel_rfl) (fun _ _ _ h => h) ?_
              refine GA.read 1 #[true, false, false, false, false] rfl (by exact Wlba) rfl rfl (by kernel_rfl) rfl (by kernel_rfl) (by kernel_rfl) (fun _ _ _ h => h) ?_
              refine GA.branch (rs := [2]) (JOk.live (by exact Wlba) (JOk.live (by exact Wlba) JOk.nil)) (by kernel_rfl) (by simp) ?_
              refine GAs.cons rfl ?_ ?_
              · -- FfT op 2
                refine GL.call rfl rfl (sFoldFormula_spec _ _ _ _ _ Wrd Wom) ?_
                rintro _ _ ⟨B31, d31, rfl, rfl⟩
                refine GL.nil ?_
                refine GE.any ?_
                refine GA.branch (rs := [3]) (JOk.dead (by kernel_rfl) (JOk.live (by exact Wlba) JOk.nil)) (by kernel_rfl) (by simp) ?_
                refine GAs.cons rfl ?_ ?_
                · -- FfT op 3
                  refine GL.callF rfl rfl (equalFormula_spec _ _ _ _ _ Wrd _ _ _ Wrd Wom) ?_
                  refine GL.nil ?_
                  refine GE.any ?_
                  refine GA.take 4 #[true, true, true, true, false] rfl (by exact Ev.assign rfl) rfl rfl (by kernel_rfl) rfl (by kernel_rfl) (by kernel_rfl) (fun _ _ _ h => h) ?_
                  refine GA.done (JOk.dead (by kernel_rfl) (JOk.dead (by kernel_rfl) JOk.nil)) (by kernel_rfl) ?_
                  refine GE.seq ?_
                  refine GC.ret ?_
                  refine GE.seq_ret ?_
                  -- returns, path FfT
                  refine GE.ret_tmp (L' := L) (.inl rfl) rfl rfl Wsb ?_
                  exact ⟨by simp, rfl⟩
                exact GAs.nil
              exact GAs.nil
            · -- FfF
              have hvb : validF fp16 = true := by simpa using h3
              have hV := validF_iff.1 hvb
              have hFV := folF_valid hV
              have hfl := folF_length hV
              have hms := folF_mays hV
              refine GC.skip ?_
              refine GE.seq ?_
              refine GC.seq ?_
              refine GC.seq ?_
              refine GC.region ?_
              refine GL.v Wag ?_
              refine GL.nil ?_
              refine GE.seq ?_
              refine GC.block ?_
              -- loop 1: carried slots [5]
              refine GC.loopK (α := Nat) (fun k => k ≤ 5) (fun k => [(5, .int .i64 k)]) [(3, _), (4, _)] (fun k => blk g4 35 [.slice B18 (folF fp16).length d18] :: row partE B18 d18 (folF fp16) :: blk g3 35 [.slice D16 fp16.length e16] :: row partE D16 e16 fp16 :: L) (fun k => 5 - k) 0 Wkp Wsb (Nat.zero_le _) ?_
              rintro k hk
              refine GC.seq ?_
              refine GC.seq ?_
              refine GC.region ?_
              refine GL.v Wmv ?_
              refine GL.v Wls ?_
              refine GL.nil ?_
              refine GE.seq ?_
              refine GC.ifs (fun h4 => ?_) (fun h4 => ?_)
              · -- FfFT
                have hk5 : k < 5 := by omega
                have hsq := try_sq hk5
                refine GC.skip ?_
                refine GE.seq ?_
                refine GC.seq ?_
                refine GC.block ?_
                refine GC.seq ?_
                refine GC.region ?_
                refine GL.buildSlice rfl (by first | exact bsInt0 | exact bsInt1 _ | exact bsInt2 _ _ | exact bsInt3 _ _ _ | exact bsInt4 _ _ _ _ | exact bsInt5 _ _ _ _ _ | exact bsInt6 _ _ _ _ _ _ | exact bsInt7 _ _ _ _ _ _ _ | exact bsInt8 _ _ _ _ _ _ _ _ | exact bsInt9 _ _ _ _ _ _ _ _ _ | exact bsInt10 _ _ _ _ _ _ _ _ _ _ | exact bsPart0 | exact bsPart1 ⟨_, _, _, _, _⟩ | exact bsNode1 ⟨_, _, _, _⟩ | exact bsPtr3 _ _ _ | exact bsSl0 | exact bsSl1 ⟨_, _, _⟩ | exact bsForm0 | exact bsForm1 ⟨_, _, _⟩ | exact bsAct0 | exact bsBool0 | exact bsAct1 ⟨_, _, _⟩) rfl (by decide) rfl ?_; intro g37
                refine GL.v Wag ?_
                refine GL.nil ?_
                refine GE.seq ?_
                refine GC.seq ?_
                refine GC.seq ?_
                refine GC.region ?_
                refine GL.v Wag ?_
                refine GL.nil ?_
                refine GE.seq ?_
                refine GC.block ?_
                -- loop 2: carried slots [6, 7]
                refine GC.loopK (α := Nat × Option Addr × Nat) (fun x => x.1 ≤ 10) (fun x => [(6, .slice x.2.1 (tryL k x.1).length x.2.2), (7, .int .i64 x.1)]) [(3, _), (4, _), (5, _)] (fun x => row intE x.2.1 x.2.2 (tryL k x.1) :: blk g4 35 [.slice B18 (folF fp16).length d18] :: row partE B18 d18 (folF fp16) :: blk g3 35 [.slice D16 fp16.length e16] :: row partE D16 e16 fp16 :: L) (fun x => 10 - x.1) (0, some ⟨g37, 0, none⟩, 0) Wkp Wsb (Nat.zero_le _) ?_
                rintro ⟨n, E, e⟩ hn
                dsimp only at hn ⊢
                have htl := tryL_length k n
                refine GC.seq ?_
                refine GC.seq ?_
                refine GC.region ?_
                refine GL.v Wmv ?_
                refine GL.v Wls ?_
                refine GL.nil ?_
                refine GE.seq ?_
                refine GC.ifs (fun h5 => ?_) (fun h5 => ?_)
                · -- FfFTT
                  refine GC.skip ?_
                  refine GE.seq ?_
                  refine GC.seq ?_
                  refine GC.block ?_
                  refine GC.region ?_
                  refine GL.v Wmv ?_
                  refine GL.v Wmv ?_
                  refine GL.v (by exact EvP.r (Ev.mul rfl rfl (by omega))) ?_
                  refine GL.v Wmv ?_
                  refine GL.v Wmv ?_
                  refine GL.v (by exact EvP.r (Ev.mul rfl rfl (by omega))) ?_
                  refine GL.v (by exact EvP.r (Ev.mul rfl rfl (by omega))) ?_
                  refine GL.v Wad ?_
                  refine GL.v Wmv ?_
                  refine GL.v Wad ?_
                  refine GL.v (by exact EvP.r (Ev.rem rfl rfl (by omega) (by omega))) ?_
                  refine GL.buildSlice rfl (by first | exact bsInt0 | exact bsInt1 _ | exact bsInt2 _ _ | exact bsInt3 _ _ _ | exact bsInt4 _ _ _ _ | exact bsInt5 _ _ _ _ _ | exact bsInt6 _ _ _ _ _ _ | exact bsInt7 _ _ _ _ _ _ _ | exact bsInt8 _ _ _ _ _ _ _ _ | exact bsInt9 _ _ _ _ _ _ _ _ _ | exact bsInt10 _ _ _ _ _ _ _ _ _ _ | exact bsPart0 | exact bsPart1 ⟨_, _, _, _, _⟩ | exact bsNode1 ⟨_, _, _, _⟩ | exact bsPtr3 _ _ _ | exact bsSl0 | exact bsSl1 ⟨_, _, _⟩ | exact bsForm0 | exact bsForm1 ⟨_, _, _⟩ | exact bsAct0 | exact bsBool0 | exact bsAct1 ⟨_, _, _⟩) rfl (by decide) rfl ?_; intro g53
                  first | (refine GL.append rfl rfl Wpk (by assumption) Wim (by first | rfl | (simp; done) | (simp; omega)) (by first | rfl | (simp; done) | (simp; omega)) (by first | omega | (simp; omega)) (by first | omega | (simp; omega)) rfl ?_; intro A54 c54) | (refine GL.append rfl rfl Wpk (Rd.of_pick Wpk) Imp.refl (by first | rfl | (simp; done) | (simp; omega)) (by first | rfl | (simp; done) | (simp; omega)) (by first | omega | (simp; omega)) (by first | omega | (simp; omega)) rfl ?_; intro A54 c54)
                  refine GL.v Wag ?_
                  refine GL.nil ?_
                  refine GE.block ?_
                  refine GE.seq ?_
                  refine GC.region ?_
                  refine GL.v Wmv ?_
                  refine GL.v Wad ?_
                  refine GL.v Wag ?_
                  refine GL.nil ?_
                  -- round of loop 2, path FfFTT
                  have hts := tryL_succ k n
                  refine GE.round (n + 1, _, _) (by dsimp only; omega) (by dsimp only; omega) (by dsimp only; rw [← hts]; exact Wkp) (by dsimp only; rw [← hts]; exact Wsb)
                · -- FfFTF
                  obtain rfl : n = 10 := by omega
                  have hft := try_fit hV (k := k) (by omega) (by omega)
                  have hft2 := try_fit hFV (k := k) (by omega) (by omega)
                  have hvv := folF_val hV (valF (tryL k 10))
                  have hrr : rdsL (folF fp16) (tryL k 10) = rdsL fp16 (tryL k 10) := by rw [rdsL_yes hft, rdsL_yes hft2]; exact folF_read hV _
                  have hrl := rdsL_length fp16 (tryL k 10)
                  refine GC.exit ?_
                  refine GE.seq_exit ?_
                  refine GE.loop_exit ?_
                  refine GE.block_exit ?_
                  refine GE.seq ?_
                  refine GC.seq ?_
                  refine GC.region ?_
                  refine GL.v Wlba ?_
                  refine GL.v Wmv ?_
                  refine GL.callF rfl rfl (ValueOf_spec _ _ _ _ _ Wrd _ _ _ Wrd Wom) ?_
                  rw [if_pos hft]
                  refine GL.v Wmv ?_
                  refine GL.v Wxt ?_
                  refine GL.v Wxt ?_
                  refine GL.v Wag ?_
                  refine GL.v Wag ?_
                  refine GL.nil ?_
                  refine GE.seq ?_
                  refine GC.seq ?_
                  refine GC.region ?_
                  refine GL.v Wlba ?_
                  refine GL.v Wmv ?_
                  refine GL.callF rfl rfl (ValueOf_spec _ _ _ _ _ Wrd _ _ _ Wrd Wom) ?_
                  rw [if_pos hft2, hft2, hvv]
                  refine GL.v Wmv ?_
                  refine GL.v Wxt ?_
                  refine GL.v Wxt ?_
                  refine GL.v Wag ?_
                  refine GL.v Wag ?_
                  refine GL.nil ?_
                  refine GE.seq ?_
                  refine GC.seq ?_
                  refine GC.region_any #[false, false, false, false, false, false, false, false, false, false, true, false, false, true, true, false, false] mixed ?_
                  refine GA.take 0 #[false, false, false, false, false, false, false, false, false, false, false, false, false, false, false, false, false] rfl (by exact Ev.move rfl) rfl rfl (by kernel_rfl) rfl (by kernel_rfl) (by kernel_rfl) (fun _ _ _ h => h) ?_
                  refine GA.take 1 #[true, false, false, false, false, false, false, false, false, false, false, false, false, false, false, false, false] rfl (by exact Ev.not rfl) rfl rfl (by kernel_rfl) rfl (by kernel_rfl) (by kernel_rfl) (fun _ _ _ h => h) ?_
                  refine GA.take 2 #[true, true, false, false, false, false, false, false, false, false, false, false, false, false, false, false, false] rfl (by exact Ev.move rfl) rfl rfl (by kernel_rfl) rfl (by kernel_rfl) (by kernel_rfl) (fun _ _ _ h => h) ?_
                  first | refine GA.split_dec (d := 69) rfl (fun h6 => ?_) (fun h6 => ?_) | refine GA.split_ndec (d := 69) rfl (fun h6 => ?_) (fun h6 => ?_) | refine GA.split (d := 69) rfl (fun h6 => ?_) (fun h6 => ?_)
                  · -- FfFTFt
                    exact absurd h6 (by decide)
                  · -- FfFTFf
                    refine GA.take_want 3 #[true, true, true, false, true, false, false, false, false, false, false, false, false, false, false, false, false] rfl rfl rfl (by exact Ev.move rfl) rfl (by kernel_rfl) rfl (by kernel_rfl) (by kernel_rfl) (fun _ _ _ h => h) ?_
                    refine GA.take_want 4 #[true, true, true, true, false, false, false, false, false, false, false, false, false, false, false, false, false] rfl rfl rfl (by exact Ev.move rfl) rfl (by kernel_rfl) rfl (by kernel_rfl) (by kernel_rfl) (fun _ _ _ h => h) ?_
                    refine GA.take_want 5 #[true, true, true, true, true, false, false, false, false, false, false, false, false, false, false, false, false] rfl rfl rfl (by exact Ev.neq rfl rfl) rfl (by kernel_rfl) rfl (by kernel_rfl) (by kernel_rfl) (fun _ _ _ h => h) ?_
                    refine GA.take 6 #[true, true, true, true, true, true, false, false, false, false, false, false, false, false, false, false, false] rfl (by exact Ev.pick_false rfl rfl) rfl rfl (by kernel_rfl) rfl (by kernel_rfl) (by kernel_rfl) (fun _ _ _ h => h) ?_
                    refine GA.take 7 #[true, true, true, true, true, true, true, false, false, false, false, false, false, false, false, false, false] rfl (by exact Ev.move rfl) rfl rfl (by kernel_rfl) rfl (by kernel_rfl) (by kernel_rfl) (fun _ _ _ h => h) ?_
                    first | refine GA.split_dec (d := 74) rfl (fun h7 => ?_) (fun h7 => ?_) | refine GA.split_ndec (d := 74) rfl (fun h7 => ?_) (fun h7 => ?_) | refine GA.split (d := 74) rfl (fun h7 => ?_) (fun h7 => ?_)
                    · -- FfFTFft
                      exact absurd rfl h7
                    · -- FfFTFff
                      refine GA.read_want 8 #[true, true, true, true, true, true, true, true, false, true, false, true, true, false, false, false, false] rfl rfl rfl (by exact Wlba) rfl (by kernel_rfl) rfl (by kernel_rfl) (by kernel_rfl) (fun _ _ _ h => h) ?_
                      refine GA.take_want 9 #[true, true, true, true, true, true, true, true, true, false, false, true, true, false, false, false, false] rfl rfl rfl (by exact Ev.move rfl) rfl (by kernel_rfl) rfl (by kernel_rfl) (by kernel_rfl) (fun _ _ _ h => h) ?_
                      refine GA.read_want 11 #[true, true, true, true, true, true, true, true, true, true, true, false, true, false, false, false, false] rfl rfl rfl (by exact Wlba) rfl (by kernel_rfl) rfl (by kernel_rfl) (by kernel_rfl) (fun _ _ _ h => h) ?_
                      refine GA.take_want 12 #[true, true, true, true, true, true, true, true, true, true, true, true, false, false, false, false, false] rfl rfl rfl (by exact Ev.move rfl) rfl (by kernel_rfl) rfl (by kernel_rfl) (by kernel_rfl) (fun _ _ _ h => h) ?_
                      refine GA.branch (rs := [10]) (JOk.live (by exact Wlba) (JOk.live (by exact Wlba) JOk.nil)) (by kernel_rfl) (by simp) ?_
                      refine GAs.cons rfl ?_ ?_
                      · -- FfFTFff op 10
                        refine GL.want rfl rfl ?_
                        refine GL.call rfl rfl (iReadsOf_spec _ _ _ _ _ Wrd _ _ _ Wrd Wom) ?_
                        rintro _ _ ⟨B77, d77, rfl, rfl⟩
                        rw [hrr]
                        refine GL.nil ?_
                        refine GE.any ?_
                        refine GA.branch (rs := [13]) (JOk.live (by exact Wlba) (JOk.dead (by kernel_rfl) JOk.nil)) (by kernel_rfl) (by simp) ?_
                        refine GAs.cons rfl ?_ ?_
                        · -- FfFTFff op 13
                          refine GL.want rfl rfl ?_
                          refine GL.call rfl rfl (iReadsOf_spec _ _ _ _ _ Wrd _ _ _ Wrd Wom) ?_
                          rintro _ _ ⟨B80, d80, rfl, rfl⟩
                          refine GL.nil ?_
                          refine GE.any ?_
                          refine GA.branch (rs := [14]) (JOk.dead (by kernel_rfl) (JOk.dead (by kernel_rfl) JOk.nil)) (by kernel_rfl) (by simp) ?_
                          refine GAs.cons rfl ?_ ?_
                          · -- FfFTFff op 14
                            refine GL.want rfl rfl ?_
                            refine GL.callF rfl rfl (equalInts_spec _ _ _ _ _ Wrd _ _ _ Wrd Wom) ?_
                            refine GL.nil ?_
                            refine GE.any ?_
                            refine GA.take_want 15 #[true, true, true, true, true, true, true, true, true, true, true, true, true, true, true, false, false] rfl rfl rfl (by exact Ev.not rfl) rfl (by kernel_rfl) rfl (by kernel_rfl) (by kernel_rfl) (fun _ _ _ h => h) ?_
                            refine GA.take 16 #[true, true, true, true, true, true, true, true, true, true, true, true, true, true, true, true, false] rfl (by exact Ev.pick_false rfl rfl) rfl rfl (by kernel_rfl) rfl (by kernel_rfl) (by kernel_rfl) (fun _ _ _ h => h) ?_
                            refine GA.done (JOk.dead (by kernel_rfl) (JOk.dead (by kernel_rfl) JOk.nil)) (by kernel_rfl) ?_
                            refine GE.seq ?_
                            refine GC.ifs (fun h8 => ?_) (fun h8 => ?_)
                            · -- FfFTFffT
                              exact absurd rfl h8
                            · -- FfFTFffF
                              refine GC.skip ?_
                              refine GE.block ?_
                              refine GE.seq ?_
                              refine GC.region ?_
                              refine GL.v Wmv ?_
                              refine GL.v Wad ?_
                              refine GL.v Wag ?_
                              refine GL.nil ?_
                              -- round of loop 1, path FfFTFffF
                              refine GE.round (k + 1) (by omega) (by omega) Wkp Wsb
                          exact GAs.nil
                        exact GAs.nil
                      exact GAs.nil
              · -- FfFF
                refine GC.exit ?_
                refine GE.seq_exit ?_
                refine GE.loop_exit ?_
                refine GE.block_exit ?_
                refine GE.seq ?_
                refine GC.seq ?_
                refine GC.region_any #[false, true, false, true, false, false, false, false, false, false, false, false, false, false, false, true, false, true, true, false, false] mixed ?_
                refine GA.read 0 #[false, false, true, false, false, false, false, false, false, false, false, false, false, false, false, false, false, false, false, false, false] rfl (by exact Wlba) rfl rfl (by kernel_rfl) rfl (by kernel_rfl) (by kernel_rfl) (fun _ _ _ h => h) ?_
                refine GA.read 2 #[true, true, false, false, false, false, false, false, false, false, false, false, false, false, false, false, false, false, false, false, false] rfl (by exact Wlba) rfl rfl (by kernel_rfl) rfl (by kernel_rfl) (by kernel_rfl) (fun _ _ _ h => h) ?_
                refine GA.branch (rs := [1]) (JOk.live (by exact Wlba) (JOk.live (by exact Wlba) JOk.nil)) (by kernel_rfl) (by simp) ?_
                refine GAs.cons rfl ?_ ?_
                · -- FfFF op 1
                  refine GL.call rfl rfl (iFoldFormula_spec _ _ _ _ _ Wrd) ?_
                  rintro _ _ ⟨B85, d85, rfl, rfl⟩
                  rw [folF_again hV]
                  refine GL.nil ?_
                  refine GE.any ?_
                  refine GA.branch (rs := [3]) (JOk.live (by exact Wlba) (JOk.dead (by kernel_rfl) JOk.nil)) (by kernel_rfl) (by simp) ?_
                  refine GAs.cons rfl ?_ ?_
                  · -- FfFF op 3
                    refine GL.callF rfl rfl (equalFormula_spec _ _ _ _ _ Wrd _ _ _ Wrd Wom) ?_
                    refine GL.nil ?_
                    refine GE.any ?_
                    refine GA.take 4 #[true, true, true, true, false, false, false, false, false, false, false, false, false, false, false, false, false, false, false, false, false] rfl (by exact Ev.move rfl) rfl rfl (by kernel_rfl) rfl (by kernel_rfl) (by kernel_rfl) (fun _ _ _ h => h) ?_
                    first | refine GA.split_dec (d := 88) rfl (fun h5 => ?_) (fun h5 => ?_) | refine GA.split_ndec (d := 88) rfl (fun h5 => ?_) (fun h5 => ?_) | refine GA.split (d := 88) rfl (fun h5 => ?_) (fun h5 => ?_)
                    · -- FfFFt
                      refine GA.take_want 5 #[true, true, true, true, true, false, false, false, true, true, true, false, false, false, false, false, false, false, false, false, false] rfl rfl rfl (by exact Ev.fieldAddr rfl) rfl (by kernel_rfl) rfl (by kernel_rfl) (by kernel_rfl) (fun _ _ _ h => h) ?_
                      refine GA.read_want 6 #[true, true, true, true, true, true, false, false, true, true, true, false, false, false, false, false, false, false, false, false, false] rfl rfl rfl (by exact Wlb) rfl (by kernel_rfl) rfl (by kernel_rfl) (by kernel_rfl) (fun _ _ _ h => h) ?_
                      refine GA.take_want 7 #[true, true, true, true, true, true, true, false, true, true, true, false, false, false, false, false, false, false, false, false, false] rfl rfl rfl (by exact Ev.len rfl) rfl (by kernel_rfl) rfl (by kernel_rfl) (by kernel_rfl) (fun _ _ _ h => h) ?_
                      refine GA.take_want 8 #[true, true, true, true, true, true, true, true, false, false, false, false, false, false, false, false, false, false, false, false, false] rfl rfl rfl (by exact Ev.fieldAddr rfl) rfl (by kernel_rfl) rfl (by kernel_rfl) (by kernel_rfl) (fun _ _ _ h => h) ?_
                      refine GA.read_want 9 #[true, true, true, true, true, true, true, true, true, false, false, false, false, false, false, false, false, false, false, false, false] rfl rfl rfl (by exact Wlb) rfl (by kernel_rfl) rfl (by kernel_rfl) (by kernel_rfl) (fun _ _ _ h => h) ?_
                      refine GA.take_want 10 #[true, true, true, true, true, true, true, true, true, true, false, false, false, false, false, false, false, false, false, false, false] rfl rfl rfl (by exact Ev.len rfl) rfl (by kernel_rfl) rfl (by kernel_rfl) (by kernel_rfl) (fun _ _ _ h => h) ?_
                      refine GA.take_want 11 #[true, true, true, true, true, true, true, true, true, true, true, false, false, false, false, false, false, false, false, false, false] rfl rfl rfl (by exact Ev.leq rfl rfl) rfl (by kernel_rfl) rfl (by kernel_rfl) (by kernel_rfl) (fun _ _ _ h => h) ?_
                      refine GA.take 12 #[true, true, true, true, true, true, true, true, true, true, true, true, false, false, false, false, false, false, false, false, false] rfl (by exact Ev.pick_true rfl rfl) rfl rfl (by kernel_rfl) rfl (by kernel_rfl) (by kernel_rfl) (fun _ _ _ h => h) ?_
                      refine GA.take 13 #[true, true, true, true, true, true, true, true, true, true, true, true, true, false, false, false, false, false, false, false, false] rfl (by exact Ev.move rfl) rfl rfl (by kernel_rfl) rfl (by kernel_rfl) (by kernel_rfl) (fun _ _ _ h => h) ?_
                      first | refine GA.split_dec (d := 97) rfl (fun h6 => ?_) (fun h6 => ?_) | refine GA.split_ndec (d := 97) rfl (fun h6 => ?_) (fun h6 => ?_) | refine GA.split (d := 97) rfl (fun h6 => ?_) (fun h6 => ?_)
                      · -- FfFFtt
                        refine GA.read_want 14 #[true, true, true, true, true, true, true, true, true, true, true, true, true, true, false, false, true, false, false, false, false] rfl rfl rfl (by exact Wlba) rfl (by kernel_rfl) rfl (by kernel_rfl) (by kernel_rfl) (fun _ _ _ h => h) ?_
                        refine GA.read_want 16 #[true, true, true, true, true, true, true, true, true, true, true, true, true, true, true, true, false, false, false, false, false] rfl rfl rfl (by exact Wlba) rfl (by kernel_rfl) rfl (by kernel_rfl) (by kernel_rfl) (fun _ _ _ h => h) ?_
                        refine GA.branch (rs := [15]) (JOk.live (by exact Wlba) (JOk.live (by exact Wlba) (JOk.live (by exact Wlb) (JOk.live (by exact Wlb) (JOk.dead (by kernel_rfl) (JOk.dead (by kernel_rfl) JOk.nil)))))) (by kernel_rfl) (by simp) ?_
                        refine GAs.cons rfl ?_ ?_
                        · -- FfFFtt op 15
                          refine GL.want rfl rfl ?_
                          refine GL.call rfl rfl (iMayRead_spec _ _ _ _ _ Wrd) ?_
                          rintro _ _ ⟨B99, d99, rfl, rfl⟩
                          have hm1 := mayV_length (folF fp16)
                          refine GL.nil ?_
                          refine GE.any ?_
                          refine GA.branch (rs := [17]) (JOk.live (by exact Wlba) (JOk.dead (by kernel_rfl) (JOk.dead (by kernel_rfl) (JOk.dead (by kernel_rfl) (JOk.dead (by kernel_rfl) (JOk.dead (by kernel_rfl) JOk.nil)))))) (by kernel_rfl) (by simp) ?_
                          refine GAs.cons rfl ?_ ?_
                          · -- FfFFtt op 17
                            refine GL.want rfl rfl ?_
                            refine GL.call rfl rfl (iMayRead_spec _ _ _ _ _ Wrd) ?_
                            rintro _ _ ⟨B101, d101, rfl, rfl⟩
                            have hm2 := mayV_length fp16
                            refine GL.nil ?_
                            refine GE.any ?_
                            refine GA.branch (rs := [18]) (JOk.dead (by kernel_rfl) (JOk.dead (by kernel_rfl) (JOk.dead (by kernel_rfl) (JOk.dead (by kernel_rfl) (JOk.dead (by kernel_rfl) (JOk.dead (by kernel_rfl) JOk.nil)))))) (by kernel_rfl) (by simp) ?_
                            refine GAs.cons rfl ?_ ?_
                            · -- FfFFtt op 18
                              refine GL.want rfl rfl ?_
                              refine GL.callF rfl rfl (within_spec _ _ _ _ _ Wrd _ _ _ Wrd Wom Wom (by assumption)) ?_
                              refine GL.nil ?_
                              refine GE.any ?_
                              refine GA.take 19 #[true, true, true, true, true, true, true, true, true, true, true, true, true, true, true, true, true, true, true, false, false] rfl (by exact Ev.pick_true rfl rfl) rfl rfl (by kernel_rfl) rfl (by kernel_rfl) (by kernel_rfl) (fun _ _ _ h => h) ?_
                              refine GA.take 20 #[true, true, true, true, true, true, true, true, true, true, true, true, true, true, true, true, true, true, true, true, false] rfl (by exact Ev.assign rfl) rfl rfl (by kernel_rfl) rfl (by kernel_rfl) (by kernel_rfl) (fun _ _ _ h => h) ?_
                              refine GA.done (JOk.dead (by kernel_rfl) (JOk.dead (by kernel_rfl) (JOk.dead (by kernel_rfl) (JOk.dead (by kernel_rfl) (JOk.dead (by kernel_rfl) (JOk.dead (by kernel_rfl) JOk.nil)))))) (by kernel_rfl) ?_
                              refine GE.seq ?_
                              refine GC.ret ?_
                              -- returns, path FfFFtt
                              refine GE.ret_tmp (L' := L) (.inl rfl) rfl rfl Wsb ?_
                              exact ⟨rfl, rfl⟩
                            exact GAs.nil
                          exact GAs.nil
                        exact GAs.nil
                      · -- FfFFtf
                        omega
                    · -- FfFFf
                      exact absurd rfl h5
                  exact GAs.nil
                exact GAs.nil
          exact GAs.nil
      exact GAs.nil
    exact GAs.nil
theorem fnFoldFormula_calls {H : Type} {enc : TypeId × Value → H} {W : World} {base : Nat} {args : Array Value} {ds : List (DataW H)} {p : List MemPlace} (hval : ∀ (j : Nat) t v, Try.f11.params[j]? = some t → args[j]? = some v → Value.okWide Try.prog W .any base t v)
    (hA : DataW.TrodAll enc Try.prog W 0 (fun _ => true) true Try.f11.params.toList args.toList ds p) : Tr Try.prog 11 args W [] (fun v L' => v = .bool true ∧ L' = []) := by
  rw [Try.params11] at hA hval
  obtain ⟨v0, vs0, d0, ds0, p0, q0, hargs, rfl, rfl, h0, r0⟩ := trodAll_cons hA
  obtain ⟨rfl, rfl, rfl⟩ := trodAll_nil r0
  obtain rfl : args = #[v0] := by cases args; simp_all
  obtain ⟨A, c, bs, rfl, hR, hb⟩ := arg_sl (E := byteE) (st := 22) (by kernel_rfl) (opens_bytes W) (hval 0 _ v0 rfl rfl) h0
  exact FnFoldFormula_spec W [] A c bs hR (fun x hx => wf_u8 (hb x hx))
theorem fnFoldFormula_lifted (os : Os) (started : os.Started) (H : Type) (enc : TypeId × Value → H) :
    ReturnsInHanded {} Try.checked os 11 .any (Ytojffodplphlaaa.Rows.fnFoldFormulaSpec.pre6 enc Try.prog Try.f11 Ytojffodplphlaaa.Rows.fnFoldFormulaRow.domain false) (Ytojffodplphlaaa.Rows.fnFoldFormulaSpec.post enc Try.prog Try.f11 false true false false) := by
  refine returnsInHanded_of_change (C := Try.checked) own started (by kernel_rfl) Try.func11
    (ChangeSpec.witness6 (enc := enc) (C := Try.checked) false ⟨#[], #[.slice none 0 0], []⟩ 8 (by kernel_rfl) (by kernel_rfl) (by kernel_rfl) (by kernel_rfl)) ?_
  intro W base args ds gs before hval0 hW hcnd _
  have hval : ∀ (j : Nat) t v, Try.f11.params[j]? = some t → args[j]? = some v → Value.okWide Try.prog W .any base t v := hval0
  have hW' := hW
  obtain ⟨p, q, hA0, _⟩ := hW
  have hA : DataW.TrodAll enc Try.prog W 0 (fun _ => true) true Try.f11.params.toList args.toList ds p := hA0
  have hlen : ds.length = Try.f11.params.toList.length := trodAll_len hA
  rw [Try.params11] at hlen
  refine ((fnFoldFormula_calls hval hA).go W (St.start W)).mono ?_
  rintro e W' ⟨v, L', ⟨rfl, rfl⟩, rfl, hs⟩
  exact ⟨_, rfl, law_post kids full (by rw [Try.params11]; decide) hW' rfl (fun hg => by subst hg; match ds, hlen with | [_], _ => exact bool_res) (fun hg => by subst hg; match ds, hlen with | [_], _ => rfl) (fun hg => by subst hg; match ds, hlen with | [_], _ => rfl) hs.below⟩
theorem fnFoldFormula_over : Ytojffodplphlaaa.Rows.fnFoldFormulaRow.holds Try.pinned (OpenSpec.ofChange Ytojffodplphlaaa.Rows.fnFoldFormulaSpec) :=
  OpenClaim.holds_of_wide 11 Try.f11 rfl rfl rfl rfl rfl rfl rfl ⟨rfl, rfl, rfl, rfl, rfl⟩ rfl rfl rfl rfl rfl (by kernel_rfl) Try.func11 (by kernel_rfl)
    (of_decide_eq_true (by kernel_rfl)) (by unfold Func.isWrapper; first | (rw [if_pos (by decide +kernel)]; kernel_rfl) | (rw [if_neg (by decide +kernel)]; exact ⟨rfl, rfl⟩))
    (fun os started H enc _ => fnFoldFormula_lifted os started H enc)
end SG
namespace Go.Proofs.Ytojffodplphlaaa
theorem fnFoldFormula_proved : Rows.FnFoldFormulaSaid := SG.fnFoldFormula_over
end Go.Proofs.Ytojffodplphlaaa
#print axioms Go.Proofs.Ytojffodplphlaaa.fnFoldFormula_proved
