/- The law FnDepsOf holds for every input. -/
import Derived.Test.YtojffodplphlaaaD13
import Derived.Test.YtojffodplphlaaaD14
import Derived.Test.YtojffodplphlaaaD22
import Derived.Test.YtojffodplphlaaaD35
import Derived.Test.YtojffodplphlaaaD40
import Derived.Test.YtojffodplphlaaaRows
namespace SG
open Go Go.RowKit Go.Proofs Go.Proofs.Ytojffodplphlaaa Go.ChangeShapes Go.WideShapes Go.Deep
set_option linter.unusedVariables false
set_option linter.unusedSimpArgs false
set_option maxRecDepth 100000
theorem FnDepsOf_spec (w0 : World) (L : List Asn) (A : Option Addr) (c : Nat) (bs : List Int) (hR : Rd w0 [] byteE A c bs) (hb : ∀ x ∈ bs, 0 ≤ x ∧ x ≤ 255) :
    Tr Try.prog 4 #[.slice A bs.length c] w0 L (fun v L' => v = .bool true ∧ L' = L) := by
  refine Tr.rd_cap (hR.imp Imp.nil) fun hc1 hc2 => ?_
  refine Tr.enter (args := [.slice A bs.length c]) Try.func4 Try.ntmps4 rfl rfl ?_
  refine GC.seq ?_
  refine GC.region ?_
  refine GL.v Wag ?_
  refine GL.nil ?_
  refine GE.seq ?_
  refine GC.seq ?_
  refine GC.seq ?_
  refine GC.region ?_
  refine GL.v Wmv ?_
  refine GL.v Wln ?_
  refine GL.v Wgt ?_
  refine GL.nil ?_
  refine GE.seq ?_
  refine GC.ifs (fun h1 => ?_) (fun h1 => ?_)
  · -- T
    refine GC.seq ?_
    refine GC.region ?_
    refine GL.v Wag ?_
    refine GL.nil ?_
    refine GE.seq ?_
    refine GC.ret ?_
    refine GE.seq_ret ?_
    -- returns, path T
    refine GE.ret_tmp (L' := L) (.inl rfl) rfl rfl Wsb ?_
    exact ⟨rfl, rfl⟩
  · -- F
    refine GC.skip ?_
    refine GE.seq ?_
    refine GC.seq ?_
    refine GC.region ?_
    refine GL.v Wmv ?_
    refine GL.call rfl rfl (DrawDepsOf_spec _ _ _ _ _ (by assumption) (by assumption) (by omega) (by omega)) ?_
    rintro _ _ ⟨D14, e14, ms14, B14, d14, xs14, rfl, ms14a, ms14b, ms14c, xs14a, xs14b, rfl⟩
    have hS14 := SizeG.small ms14b ms14c
    refine GL.v Wmv ?_
    refine GL.v Wxt ?_
    refine GL.v Wxt ?_
    refine GL.alloc rfl ?_; intro g3
    refine GL.store_varN rfl rfl rfl Wpk (by rfl) (by rfl) (by rfl) ?_
    refine GL.v Wag ?_
    refine GL.nil ?_
    refine GE.seq ?_
    refine GC.seq ?_
    refine GC.region ?_
    refine GL.v Wlba ?_
    refine GL.v Wmv ?_
    refine GL.call rfl rfl (iDepsOf_spec _ _ _ _ _ (by first | assumption | exact RdG.imp (by assumption) Wim | exact RdG.of_pick Wpk Wpk) _ _ _ Wrd (by first | omega | exact SizeG.le (by assumption)) Wom) ?_
    rintro _ _ ⟨B19, d19, ls19, hli19, rfl, rfl⟩
    have hZ19 := sizeLs_deps hli19
    refine GL.v Wag ?_
    refine GL.nil ?_
    refine GE.seq ?_
    refine GC.seq ?_
    refine GC.seq ?_
    refine GC.region ?_
    refine GL.v Wmv ?_
    refine GL.v Wlba ?_
    refine GL.v Wmv ?_
    refine GL.call rfl rfl (sDepsOf_spec _ _ _ _ _ (by first | assumption | exact RdG.imp (by assumption) Wim | exact RdG.of_pick Wpk Wpk) _ _ _ Wrd (by assumption) Wom) ?_
    rintro _ _ ⟨B23, d23, ls23, hli23, rfl, rfl⟩
    refine GL.callF rfl rfl (equalLists_spec _ _ _ _ _ (by first | assumption | exact RdLs.imp (by assumption) Wim | exact RdLs.of_pick Wpk Wpk) _ _ _ (by first | assumption | exact RdLs.imp (by assumption) Wim | exact RdLs.of_pick Wpk Wpk) (by assumption)) ?_
    refine GL.v Wnt ?_
    refine GL.v Wmv ?_
    refine GL.gs (fun h2 => ?_) (fun h2 => ?_)
    · -- Ft
      exact absurd (hli19.trans hli23.symm) h2
    · -- Ff
      refine GL.want rfl rfl ?_
      refine GL.v Wmv ?_
      refine GL.want rfl rfl ?_
      refine GL.v Wln ?_
      refine GL.want rfl rfl ?_
      refine GL.v Weq ?_
      refine GL.v Wpf ?_
      refine GL.nil ?_
      refine GE.seq ?_
      refine GC.ifs (fun h3 => ?_) (fun h3 => ?_)
      · -- FfT
        refine GC.seq ?_
        refine GC.region ?_
        refine GL.v Wmv ?_
        refine GL.v Wlba ?_
        refine GL.v Wmv ?_
        refine GL.call rfl rfl (sDepsOf_spec _ _ _ _ _ (by first | assumption | exact RdG.imp (by assumption) Wim | exact RdG.of_pick Wpk Wpk) _ _ _ Wrd (by assumption) Wom) ?_
        rintro _ _ ⟨B34, d34, ls34, hli34, rfl, rfl⟩
        refine GL.callF rfl rfl (equalLists_spec _ _ _ _ _ (by first | assumption | exact RdLs.imp (by assumption) Wim | exact RdLs.of_pick Wpk Wpk) _ _ _ (by first | assumption | exact RdLs.imp (by assumption) Wim | exact RdLs.of_pick Wpk Wpk) (by assumption)) ?_
        refine GL.v Wag ?_
        refine GL.nil ?_
        refine GE.seq ?_
        refine GC.ret ?_
        refine GE.seq_ret ?_
        -- returns, path FfT
        refine GE.ret_tmp (L' := L) (.inl rfl) rfl rfl Wsb ?_
        exact ⟨by rw [decide_eq_true (hli19.trans hli34.symm)], rfl⟩
      · -- FfF
        have hcv : cellsV (gr ms14) xs14 = true := depsOfL_some fun h => h3 (by rw [h] at hli19; have := congrArg List.length hli19; simp at this; simp [this])
        have hli : li ls19 = depsL (gr ms14) xs14 := hli19.trans (depsOfL_yes hcv)
        have hll : ls19.length = ms14.length := by have := congrArg List.length hli; simpa using this
        have hxl := (cellsV_len hcv).1
        rw [gr_length] at hxl
        have hml := meanL_length (gr ms14) xs14
        rw [gr_length] at hml
        obtain ⟨hV, hK⟩ := cellsV_iff.1 hcv
        refine GC.skip ?_
        refine GE.seq ?_
        refine GC.seq ?_
        refine GC.region ?_
        refine GL.v Wlba ?_
        refine GL.v Wmv ?_
        refine GL.call rfl rfl (iMeaningOf_spec _ _ _ _ _ (by first | assumption | exact RdG.imp (by assumption) Wim | exact RdG.of_pick Wpk Wpk) _ _ _ Wrd (by first | omega | exact SizeG.le (by assumption)) Wom) ?_
        rintro _ _ ⟨B38, d38, rfl, rfl⟩
        rw [meanOfL_yes hcv]
        refine GL.v Wag ?_
        refine GL.nil ?_
        refine GE.seq ?_
        refine GC.seq ?_
        refine GC.seq ?_
        refine GC.region ?_
        refine GL.v Wag ?_
        refine GL.nil ?_
        refine GE.seq ?_
        refine GC.block ?_
        -- loop 1: carried slots [7]
        refine GC.loopK (α := Nat) (fun i => i ≤ ls19.length) (fun i => [(7, .int .i64 i)]) [(3, _), (5, _), (6, _)] (fun i => row intE B38 d38 (meanL (gr ms14) xs14) :: row slE B19 d19 ls19 :: rowsA ls19 :: blk g3 25 [.slice D14 ms14.length e14] :: row nodeE D14 e14 ms14 :: partsA ms14 :: row intE B14 d14 xs14 :: L) (fun i => ls19.length - i) 0 Wkp Wsb (Nat.zero_le _) ?_
        rintro i hi
        refine GC.seq ?_
        refine GC.seq ?_
        refine GC.region ?_
        refine GL.v Wmv ?_
        refine GL.v Wmv ?_
        refine GL.v Wln ?_
        refine GL.v Wls ?_
        refine GL.nil ?_
        refine GE.seq ?_
        refine GC.ifs (fun h4 => ?_) (fun h4 => ?_)
        · -- FfFT
          have hil : i < ls19.length := by omega
          have him : i < ms14.length := by omega
          have hig : i < (gr ms14).length := by simpa using him
          have hde : ls19[i].xs = depAt (gr ms14) xs14 i := by
            have h1 : (li ls19)[i]'(by simpa using hil) = ls19[i].xs := li_get _
            have h2 : (depsL (gr ms14) xs14)[i]'(by simpa using him) = depAt (gr ms14) xs14 i := depsL_get _
            rw [← h1, ← h2]
            simp only [hli]
          have hR : Rd w0 (row intE B38 d38 (meanL (gr ms14) xs14) :: row slE B19 d19 ls19 :: rowsA ls19 :: blk g3 25 [.slice D14 ms14.length e14] :: row nodeE D14 e14 ms14 :: partsA ms14 :: row intE B14 d14 xs14 :: L) intE ls19[i].a ls19[i].c ls19[i].xs := Rd.of_rows Wpk (List.getElem_mem hil)
          have hP : Rd w0 (row intE B38 d38 (meanL (gr ms14) xs14) :: row slE B19 d19 ls19 :: rowsA ls19 :: blk g3 25 [.slice D14 ms14.length e14] :: row nodeE D14 e14 ms14 :: partsA ms14 :: row intE B14 d14 xs14 :: L) partE ms14[i].a ms14[i].c ms14[i].parts := Rd.of_parts Wpk (List.getElem_mem him)
          have hsz := hZ19.2 i hil
          refine GC.skip ?_
          refine GE.seq ?_
          refine GC.seq ?_
          refine GC.block ?_
          refine GC.seq ?_
          refine GC.seq ?_
          refine GC.region ?_
          refine GL.v Wag ?_
          refine GL.nil ?_
          refine GE.seq ?_
          refine GC.block ?_
          -- loop 2: carried slots [8]
          refine GC.loopK (α := Nat) (fun k => k ≤ ls19[i].xs.length) (fun k => [(8, .int .i64 k)]) [(3, _), (5, _), (6, _), (7, _)] (fun k => row intE B38 d38 (meanL (gr ms14) xs14) :: row slE B19 d19 ls19 :: rowsA ls19 :: blk g3 25 [.slice D14 ms14.length e14] :: row nodeE D14 e14 ms14 :: partsA ms14 :: row intE B14 d14 xs14 :: L) (fun k => ls19[i].xs.length - k) 0 Wkp Wsb (Nat.zero_le _) ?_
          rintro k hk
          refine GC.seq ?_
          refine GC.seq ?_
          refine GC.region ?_
          refine GL.v Wmv ?_
          refine GL.v Wmv ?_
          refine GL.v Wmv ?_
          refine GL.v Wix ?_
          refine GL.v Wle ?_
          refine GL.v Wln ?_
          refine GL.v Wls ?_
          refine GL.nil ?_
          refine GE.seq ?_
          refine GC.ifs (fun h5 => ?_) (fun h5 => ?_)
          · -- FfFTT
            have hkl : k < ls19[i].xs.length := by have : (slE.val ls19[i]) = .slice ls19[i].a ls19[i].xs.length ls19[i].c := rfl; omega
            have hdu := dep_users hcv hig (n := ls19[i].xs[k]) (by rw [← hde]; exact List.getElem_mem hkl)
            have hut := usersL_ten (gr ms14) ls19[i].xs[k]
            refine GC.skip ?_
            refine GE.seq ?_
            refine GC.seq ?_
            refine GC.block ?_
            refine GC.seq ?_
            refine GC.region_any #[false, false, false, false, false, false, false, false, false, false, false, false, false, false, false, false, false, false, true, false, true, false, false] mixed ?_
            refine GA.take 0 #[false, true, false, false, true, false, false, true, false, false, false, false, false, false, false, false, false, false, false, false, false, false, false] rfl (by exact Ev.move rfl) rfl rfl (by kernel_rfl) rfl (by kernel_rfl) (by kernel_rfl) (fun _ _ _ h => h) ?_
            refine GA.take 1 #[true, false, false, false, true, false, false, true, false, false, false, false, false, false, false, false, false, false, false, false, false, false, false] rfl (by exact Ev.move rfl) rfl rfl (by kernel_rfl) rfl (by kernel_rfl) (by kernel_rfl) (fun _ _ _ h => h) ?_
            refine GA.read 2 #[true, true, false, false, true, false, false, true, false, false, false, false, false, false, false, false, false, false, false, false, false, false, false] rfl (by exact Wix) rfl rfl (by kernel_rfl) rfl (by kernel_rfl) (by kernel_rfl) (fun _ _ _ h => h) ?_
            refine GA.read 3 #[true, true, true, false, true, false, false, true, false, false, false, false, false, false, false, false, false, false, false, false, false, false, false] rfl (by exact Wle) rfl rfl (by kernel_rfl) rfl (by kernel_rfl) (by kernel_rfl) (fun _ _ _ h => h) ?_
            refine GA.take 4 #[true, true, true, true, false, false, false, true, false, false, false, false, false, false, false, false, false, false, false, false, false, false, false] rfl (by exact Ev.move rfl) rfl rfl (by kernel_rfl) rfl (by kernel_rfl) (by kernel_rfl) (fun _ _ _ h => h) ?_
            refine GA.read 5 #[true, true, true, true, true, false, false, true, false, false, false, false, false, false, false, false, false, false, false, false, false, false, false] rfl (by exact Wix) rfl rfl (by kernel_rfl) rfl (by kernel_rfl) (by kernel_rfl) (fun _ _ _ h => h) ?_
            refine GA.read 6 #[true, true, true, true, true, true, false, true, false, false, false, false, false, false, false, false, false, false, false, false, false, false, false] rfl (by exact Wle) rfl rfl (by kernel_rfl) rfl (by kernel_rfl) (by kernel_rfl) (fun _ _ _ h => h) ?_
            refine GA.take 7 #[true, true, true, true, true, true, true, false, false, false, false, false, false, false, false, false, false, false, false, false, false, false, false] rfl (by exact Ev.move rfl) rfl rfl (by kernel_rfl) rfl (by kernel_rfl) (by kernel_rfl) (fun _ _ _ h => h) ?_
            refine GA.take 8 #[true, true, true, true, true, true, true, true, false, false, false, false, false, false, false, false, false, false, false, false, false, false, false] rfl (by exact Ev.geq rfl rfl) rfl rfl (by kernel_rfl) rfl (by kernel_rfl) (by kernel_rfl) (fun _ _ _ h => h) ?_
            refine GA.take 9 #[true, true, true, true, true, true, true, true, true, false, false, false, false, false, false, false, false, false, false, false, false, false, false] rfl (by exact Ev.move rfl) rfl rfl (by kernel_rfl) rfl (by kernel_rfl) (by kernel_rfl) (fun _ _ _ h => h) ?_
            first | refine GA.split_dec (d := 63) rfl (fun h6 => ?_) (fun h6 => ?_) | refine GA.split_ndec (d := 63) rfl (fun h6 => ?_) (fun h6 => ?_) | refine GA.split (d := 63) rfl (fun h6 => ?_) (fun h6 => ?_)
            · -- FfFTTt
              omega
            · -- FfFTTf
              refine GA.read_want 10 #[true, true, true, true, true, true, true, true, true, true, false, true, true, true, true, true, true, true, false, true, false, false, false] rfl rfl rfl (by exact Wlba) rfl (by kernel_rfl) rfl (by kernel_rfl) (by kernel_rfl) (fun _ _ _ h => h) ?_
              refine GA.take_want 11 #[true, true, true, true, true, true, true, true, true, true, true, false, true, false, false, true, false, false, false, true, false, false, false] rfl rfl rfl (by exact Ev.move rfl) rfl (by kernel_rfl) rfl (by kernel_rfl) (by kernel_rfl) (fun _ _ _ h => h) ?_
              refine GA.take_want 12 #[true, true, true, true, true, true, true, true, true, true, true, true, false, false, false, true, false, false, false, true, false, false, false] rfl rfl rfl (by exact Ev.move rfl) rfl (by kernel_rfl) rfl (by kernel_rfl) (by kernel_rfl) (fun _ _ _ h => h) ?_
              refine GA.read_want 13 #[true, true, true, true, true, true, true, true, true, true, true, true, true, false, false, true, false, false, false, true, false, false, false] rfl rfl rfl (by exact Wix) rfl (by kernel_rfl) rfl (by kernel_rfl) (by kernel_rfl) (fun _ _ _ h => h) ?_
              refine GA.read_want 14 #[true, true, true, true, true, true, true, true, true, true, true, true, true, true, false, true, false, false, false, true, false, false, false] rfl rfl rfl (by exact Wle) rfl (by kernel_rfl) rfl (by kernel_rfl) (by kernel_rfl) (fun _ _ _ h => h) ?_
              refine GA.take_want 15 #[true, true, true, true, true, true, true, true, true, true, true, true, true, true, true, false, false, false, false, true, false, false, false] rfl rfl rfl (by exact Ev.move rfl) rfl (by kernel_rfl) rfl (by kernel_rfl) (by kernel_rfl) (fun _ _ _ h => h) ?_
              refine GA.read_want 16 #[true, true, true, true, true, true, true, true, true, true, true, true, true, true, true, true, false, false, false, true, false, false, false] rfl rfl rfl (by exact Wix) rfl (by kernel_rfl) rfl (by kernel_rfl) (by kernel_rfl) (fun _ _ _ h => h) ?_
              refine GA.read_want 17 #[true, true, true, true, true, true, true, true, true, true, true, true, true, true, true, true, true, false, false, true, false, false, false] rfl rfl rfl (by exact Wle) rfl (by kernel_rfl) rfl (by kernel_rfl) (by kernel_rfl) (fun _ _ _ h => h) ?_
              refine GA.take_want 19 #[true, true, true, true, true, true, true, true, true, true, true, true, true, true, true, true, true, true, true, false, false, false, false] rfl rfl rfl (by exact Ev.move rfl) rfl (by kernel_rfl) rfl (by kernel_rfl) (by kernel_rfl) (fun _ _ _ h => h) ?_
              refine GA.branch (rs := [18]) (JOk.live (by exact Wle) (JOk.live (by exact Wix) (JOk.live (by exact Wle) (JOk.live (by exact Wix) (JOk.live (by exact Wlba) (JOk.live (by exact Wle) (JOk.live (by exact Wix) (JOk.live (by exact Wle) (JOk.live (by exact Wix) JOk.nil))))))))) (by kernel_rfl) (by simp) ?_
              refine GAs.cons rfl ?_ ?_
              · -- FfFTTf op 18
                refine GL.want rfl rfl ?_
                refine GL.call rfl rfl (iUsersOf_spec _ _ _ _ _ (by first | assumption | exact RdG.imp (by assumption) Wim | exact RdG.of_pick Wpk Wpk) (by first | omega | exact SizeG.le (by assumption)) _) ?_
                rintro _ _ ⟨B72, d72, rfl, rfl⟩
                refine GL.nil ?_
                refine GE.any ?_
                refine GA.branch (rs := [20]) (JOk.dead (by kernel_rfl) (JOk.dead (by kernel_rfl) (JOk.dead (by kernel_rfl) (JOk.dead (by kernel_rfl) (JOk.dead (by kernel_rfl) (JOk.dead (by kernel_rfl) (JOk.dead (by kernel_rfl) (JOk.dead (by kernel_rfl) (JOk.dead (by kernel_rfl) JOk.nil))))))))) (by kernel_rfl) (by simp) ?_
                refine GAs.cons rfl ?_ ?_
                · -- FfFTTf op 20
                  refine GL.want rfl rfl ?_
                  refine GL.callF rfl rfl (isIn_spec _ _ _ _ _ Wrd _ Wom) ?_
                  refine GL.nil ?_
                  refine GE.any ?_
                  refine GA.take_want 21 #[true, true, true, true, true, true, true, true, true, true, true, true, true, true, true, true, true, true, true, true, true, false, false] rfl rfl rfl (by exact Ev.not rfl) rfl (by kernel_rfl) rfl (by kernel_rfl) (by kernel_rfl) (fun _ _ _ h => h) ?_
                  refine GA.take 22 #[true, true, true, true, true, true, true, true, true, true, true, true, true, true, true, true, true, true, true, true, true, true, false] rfl (by exact Ev.pick_false rfl rfl) rfl rfl (by kernel_rfl) rfl (by kernel_rfl) (by kernel_rfl) (fun _ _ _ h => h) ?_
                  refine GA.done (JOk.dead (by kernel_rfl) (JOk.dead (by kernel_rfl) (JOk.dead (by kernel_rfl) (JOk.dead (by kernel_rfl) (JOk.dead (by kernel_rfl) (JOk.dead (by kernel_rfl) (JOk.dead (by kernel_rfl) (JOk.dead (by kernel_rfl) (JOk.dead (by kernel_rfl) JOk.nil))))))))) (by kernel_rfl) ?_
                  refine GE.seq ?_
                  refine GC.ifs (fun h7 => ?_) (fun h7 => ?_)
                  · -- FfFTTfT
                    exact absurd hdu.2.2 (by simpa using h7)
                  · -- FfFTTfF
                    refine GC.skip ?_
                    refine GE.block ?_
                    refine GE.seq ?_
                    refine GC.region ?_
                    refine GL.v Wmv ?_
                    refine GL.v Wad ?_
                    refine GL.v Wag ?_
                    refine GL.nil ?_
                    -- round of loop 2, path FfFTTfF
                    refine GE.round (k + 1) (by omega) (by omega) Wkp Wsb
                exact GAs.nil
              exact GAs.nil
          · -- FfFTF
            have hcell : ms14[i].kind = 0 → ls19[i].xs = [] := fun h => by rw [hde, depAt_cell hig (by rw [gr_get]; exact h)]
            refine GC.exit ?_
            refine GE.seq_exit ?_
            refine GE.loop_exit ?_
            refine GE.block_exit ?_
            refine GE.seq ?_
            refine GC.seq ?_
            refine GC.region_any #[false, false, false, false, false, false, false, false, false, false, false, false, false, false, false, false, false, false, false, false, false, false, false, false, false, false, false, false, false, false, false, false, false, false, false, true, true, false, false, false] mixed ?_
            refine GA.take 0 #[false, false, true, false, false, false, false, false, false, false, false, false, false, false, false, false, false, false, false, false, false, false, false, false, false, false, false, false, false, false, false, false, false, false, false, false, false, false, false, false] rfl (by exact Ev.fieldAddr rfl) rfl rfl (by kernel_rfl) rfl (by kernel_rfl) (by kernel_rfl) (fun _ _ _ h => h) ?_
            refine GA.read 1 #[true, false, true, false, false, false, false, false, false, false, false, false, false, false, false, false, false, false, false, false, false, false, false, false, false, false, false, false, false, false, false, false, false, false, false, false, false, false, false, false] rfl (by exact Wlb) rfl rfl (by kernel_rfl) rfl (by kernel_rfl) (by kernel_rfl) (fun _ _ _ h => h) ?_
            refine GA.take 2 #[true, true, false, false, false, false, false, false, false, false, false, false, false, false, false, false, false, false, false, false, false, false, false, false, false, false, false, false, false, false, false, false, false, false, false, false, false, false, false, false] rfl (by exact Ev.move rfl) rfl rfl (by kernel_rfl) rfl (by kernel_rfl) (by kernel_rfl) (fun _ _ _ h => h) ?_
            refine GA.read 3 #[true, true, true, false, false, false, false, false, false, false, false, false, false, false, false, false, false, false, false, false, false, false, false, false, false, false, false, false, false, false, false, false, false, false, false, false, false, false, false, false] rfl (by exact Wix) rfl rfl (by kernel_rfl) rfl (by kernel_rfl) (by kernel_rfl) (fun _ _ _ h => h) ?_
            refine GA.take 4 #[true, true, true, true, false, false, false, false, false, false, false, false, false, false, false, false, false, false, false, false, false, false, false, false, false, false, false, false, false, false, false, false, false, false, false, false, false, false, false, false] rfl (by exact Ev.fieldAddr rfl) rfl rfl (by kernel_rfl) rfl (by kernel_rfl) (by kernel_rfl) (fun _ _ _ h => h) ?_
            refine GA.read 5 #[true, true, true, true, true, false, false, false, false, false, false, false, false, false, false, false, false, false, false, false, false, false, false, false, false, false, false, false, false, false, false, false, false, false, false, false, false, false, false, false] rfl (by exact Wlef) rfl rfl (by kernel_rfl) rfl (by kernel_rfl) (by kernel_rfl) (fun _ _ _ h => h) ?_
            refine GA.take 6 #[true, true, true, true, true, true, false, false, false, false, false, false, false, false, false, false, false, false, false, false, false, false, false, false, false, false, false, false, false, false, false, false, false, false, false, false, false, false, false, false] rfl (by exact Ev.eql rfl rfl) rfl rfl (by kernel_rfl) rfl (by kernel_rfl) (by kernel_rfl) (fun _ _ _ h => h) ?_
            refine GA.take 7 #[true, true, true, true, true, true, true, false, false, false, false, false, false, false, false, false, false, false, false, false, false, false, false, false, false, false, false, false, false, false, false, false, false, false, false, false, false, false, false, false] rfl (by exact Ev.move rfl) rfl rfl (by kernel_rfl) rfl (by kernel_rfl) (by kernel_rfl) (fun _ _ _ h => h) ?_
            first | refine GA.split_dec (d := 84) rfl (fun h6 => ?_) (fun h6 => ?_) | refine GA.split_ndec (d := 84) rfl (fun h6 => ?_) (fun h6 => ?_) | refine GA.split (d := 84) rfl (fun h6 => ?_) (fun h6 => ?_)
            · -- FfFTFt
              refine GA.take_want 8 #[true, true, true, true, true, true, true, true, false, true, false, false, false, false, false, false, false, false, false, false, false, false, false, false, false, false, false, false, false, false, false, false, false, false, false, false, false, false, false, false] rfl rfl rfl (by exact Ev.move rfl) rfl (by kernel_rfl) rfl (by kernel_rfl) (by kernel_rfl) (fun _ _ _ h => h) ?_
              refine GA.take_want 9 #[true, true, true, true, true, true, true, true, true, false, false, false, false, false, false, false, false, false, false, false, false, false, false, false, false, false, false, false, false, false, false, false, false, false, false, false, false, false, false, false] rfl rfl rfl (by exact Ev.move rfl) rfl (by kernel_rfl) rfl (by kernel_rfl) (by kernel_rfl) (fun _ _ _ h => h) ?_
              refine GA.read_want 10 #[true, true, true, true, true, true, true, true, true, true, false, false, false, false, false, false, false, false, false, false, false, false, false, false, false, false, false, false, false, false, false, false, false, false, false, false, false, false, false, false] rfl rfl rfl (by exact Wix) rfl (by kernel_rfl) rfl (by kernel_rfl) (by kernel_rfl) (fun _ _ _ h => h) ?_
              refine GA.read_want 11 #[true, true, true, true, true, true, true, true, true, true, true, false, false, false, false, false, false, false, false, false, false, false, false, false, false, false, false, false, false, false, false, false, false, false, false, false, false, false, false, false] rfl rfl rfl (by exact Wle) rfl (by kernel_rfl) rfl (by kernel_rfl) (by kernel_rfl) (fun _ _ _ h => h) ?_
              refine GA.take_want 12 #[true, true, true, true, true, true, true, true, true, true, true, true, false, false, false, false, false, false, false, false, false, false, false, false, false, false, false, false, false, false, false, false, false, false, false, false, false, false, false, false] rfl rfl rfl (by exact Ev.len rfl) rfl (by kernel_rfl) rfl (by kernel_rfl) (by kernel_rfl) (fun _ _ _ h => h) ?_
              refine GA.take_want 13 #[true, true, true, true, true, true, true, true, true, true, true, true, true, false, false, false, false, false, false, false, false, false, false, false, false, false, false, false, false, false, false, false, false, false, false, false, false, false, false, false] rfl rfl rfl (by exact Ev.gtr rfl rfl) rfl (by kernel_rfl) rfl (by kernel_rfl) (by kernel_rfl) (fun _ _ _ h => h) ?_
              refine GA.take 14 #[true, true, true, true, true, true, true, true, true, true, true, true, true, true, false, false, false, false, false, false, false, false, false, false, false, false, false, false, false, false, false, false, false, false, false, false, false, false, false, false] rfl (by exact Ev.pick_true rfl rfl) rfl rfl (by kernel_rfl) rfl (by kernel_rfl) (by kernel_rfl) (fun _ _ _ h => h) ?_
              refine GA.take 15 #[true, true, true, true, true, true, true, true, true, true, true, true, true, true, true, false, false, false, false, false, false, false, false, false, false, false, false, false, false, false, false, false, false, false, false, false, false, false, false, false] rfl (by exact Ev.move rfl) rfl rfl (by kernel_rfl) rfl (by kernel_rfl) (by kernel_rfl) (fun _ _ _ h => h) ?_
              first | refine GA.split_dec (d := 92) rfl (fun h7 => ?_) (fun h7 => ?_) | refine GA.split_ndec (d := 92) rfl (fun h7 => ?_) (fun h7 => ?_) | refine GA.split (d := 92) rfl (fun h7 => ?_) (fun h7 => ?_)
              · -- FfFTFtt
                rw [hcell h6] at h7; simp at h7
              · -- FfFTFtf
                refine GA.take_want 16 #[true, true, true, true, true, true, true, true, true, true, true, true, true, true, true, true, false, false, true, false, false, false, false, false, false, false, false, false, false, false, false, false, false, false, false, false, false, false, false, false] rfl rfl rfl (by exact Ev.fieldAddr rfl) rfl (by kernel_rfl) rfl (by kernel_rfl) (by kernel_rfl) (fun _ _ _ h => h) ?_
                refine GA.read_want 17 #[true, true, true, true, true, true, true, true, true, true, true, true, true, true, true, true, true, false, true, false, false, false, false, false, false, false, false, false, false, false, false, false, false, false, false, false, false, false, false, false] rfl rfl rfl (by exact Wlb) rfl (by kernel_rfl) rfl (by kernel_rfl) (by kernel_rfl) (fun _ _ _ h => h) ?_
                refine GA.take_want 18 #[true, true, true, true, true, true, true, true, true, true, true, true, true, true, true, true, true, true, false, false, false, false, false, false, false, false, false, false, false, false, false, false, false, false, false, false, false, false, false, false] rfl rfl rfl (by exact Ev.move rfl) rfl (by kernel_rfl) rfl (by kernel_rfl) (by kernel_rfl) (fun _ _ _ h => h) ?_
                refine GA.read_want 19 #[true, true, true, true, true, true, true, true, true, true, true, true, true, true, true, true, true, true, true, false, false, false, false, false, false, false, false, false, false, false, false, false, false, false, false, false, false, false, false, false] rfl rfl rfl (by exact Wix) rfl (by kernel_rfl) rfl (by kernel_rfl) (by kernel_rfl) (fun _ _ _ h => h) ?_
                refine GA.take_want 20 #[true, true, true, true, true, true, true, true, true, true, true, true, true, true, true, true, true, true, true, true, false, false, false, false, false, false, false, false, false, false, false, false, false, false, false, false, false, false, false, false] rfl rfl rfl (by exact Ev.fieldAddr rfl) rfl (by kernel_rfl) rfl (by kernel_rfl) (by kernel_rfl) (fun _ _ _ h => h) ?_
                refine GA.read_want 21 #[true, true, true, true, true, true, true, true, true, true, true, true, true, true, true, true, true, true, true, true, true, false, false, false, false, false, false, false, false, false, false, false, false, false, false, false, false, false, false, false] rfl rfl rfl (by exact Wlef) rfl (by kernel_rfl) rfl (by kernel_rfl) (by kernel_rfl) (fun _ _ _ h => h) ?_
                refine GA.take_want 22 #[true, true, true, true, true, true, true, true, true, true, true, true, true, true, true, true, true, true, true, true, true, true, false, false, false, false, false, false, false, false, false, false, false, false, false, false, false, false, false, false] rfl rfl rfl (by exact Ev.neq rfl rfl) rfl (by kernel_rfl) rfl (by kernel_rfl) (by kernel_rfl) (fun _ _ _ h => h) ?_
                refine GA.take_want 23 #[true, true, true, true, true, true, true, true, true, true, true, true, true, true, true, true, true, true, true, true, true, true, true, false, false, false, false, false, false, false, false, false, false, false, false, false, false, false, false, false] rfl rfl rfl (by exact Ev.move rfl) rfl (by kernel_rfl) rfl (by kernel_rfl) (by kernel_rfl) (fun _ _ _ h => h) ?_
                first | refine GA.split_dec (d := 100) rfl (fun h8 => ?_) (fun h8 => ?_) | refine GA.split_ndec (d := 100) rfl (fun h8 => ?_) (fun h8 => ?_) | refine GA.split (d := 100) rfl (fun h8 => ?_) (fun h8 => ?_)
                · -- FfFTFtft
                  exact absurd h6 h8
                · -- FfFTFtff
                  refine GA.unwant 24 #[true, true, true, true, true, true, true, true, true, true, true, true, true, true, true, true, true, true, true, true, true, true, true, true, false, true, false, false, true, true, true, true, true, true, true, true, false, false, false, false] rfl rfl rfl rfl rfl (by kernel_rfl) rfl (by kernel_rfl) (by kernel_rfl) (fun _ _ _ h => h) ?_
                  refine GA.unwant 25 #[true, true, true, true, true, true, true, true, true, true, true, true, true, true, true, true, true, true, true, true, true, true, true, true, true, false, false, false, true, true, true, true, true, true, true, true, false, false, false, false] rfl rfl rfl rfl rfl (by kernel_rfl) rfl (by kernel_rfl) (by kernel_rfl) (fun _ _ _ h => h) ?_
                  refine GA.unwant 26 #[true, true, true, true, true, true, true, true, true, true, true, true, true, true, true, true, true, true, true, true, true, true, true, true, true, true, false, false, true, true, true, true, true, true, true, true, false, false, false, false] rfl rfl rfl rfl rfl (by kernel_rfl) rfl (by kernel_rfl) (by kernel_rfl) (fun _ _ _ h => h) ?_
                  refine GA.unwant 27 #[true, true, true, true, true, true, true, true, true, true, true, true, true, true, true, true, true, true, true, true, true, true, true, true, true, true, true, false, true, true, true, true, true, true, true, true, false, false, false, false] rfl rfl rfl rfl rfl (by kernel_rfl) rfl (by kernel_rfl) (by kernel_rfl) (fun _ _ _ h => h) ?_
                  refine GA.unwant 28 #[true, true, true, true, true, true, true, true, true, true, true, true, true, true, true, true, true, true, true, true, true, true, true, true, true, true, true, true, false, false, true, false, false, false, true, false, false, false, false, false] rfl rfl rfl rfl rfl (by kernel_rfl) rfl (by kernel_rfl) (by kernel_rfl) (fun _ _ _ h => h) ?_
                  refine GA.unwant 29 #[true, true, true, true, true, true, true, true, true, true, true, true, true, true, true, true, true, true, true, true, true, true, true, true, true, true, true, true, true, false, true, false, false, false, true, false, false, false, false, false] rfl rfl rfl rfl rfl (by kernel_rfl) rfl (by kernel_rfl) (by kernel_rfl) (fun _ _ _ h => h) ?_
                  refine GA.unwant 30 #[true, true, true, true, true, true, true, true, true, true, true, true, true, true, true, true, true, true, true, true, true, true, true, true, true, true, true, true, true, true, false, false, false, false, true, false, false, false, false, false] rfl rfl rfl rfl rfl (by kernel_rfl) rfl (by kernel_rfl) (by kernel_rfl) (fun _ _ _ h => h) ?_
                  refine GA.unwant 31 #[true, true, true, true, true, true, true, true, true, true, true, true, true, true, true, true, true, true, true, true, true, true, true, true, true, true, true, true, true, true, true, false, false, false, true, false, false, false, false, false] rfl rfl rfl rfl rfl (by kernel_rfl) rfl (by kernel_rfl) (by kernel_rfl) (fun _ _ _ h => h) ?_
                  refine GA.unwant 32 #[true, true, true, true, true, true, true, true, true, true, true, true, true, true, true, true, true, true, true, true, true, true, true, true, true, true, true, true, true, true, true, true, false, false, true, false, false, false, false, false] rfl rfl rfl rfl rfl (by kernel_rfl) rfl (by kernel_rfl) (by kernel_rfl) (fun _ _ _ h => h) ?_
                  refine GA.unwant 33 #[true, true, true, true, true, true, true, true, true, true, true, true, true, true, true, true, true, true, true, true, true, true, true, true, true, true, true, true, true, true, true, true, true, false, true, false, false, false, false, false] rfl rfl rfl rfl rfl (by kernel_rfl) rfl (by kernel_rfl) (by kernel_rfl) (fun _ _ _ h => h) ?_
                  refine GA.unwant 34 #[true, true, true, true, true, true, true, true, true, true, true, true, true, true, true, true, true, true, true, true, true, true, true, true, true, true, true, true, true, true, true, true, true, true, false, false, false, false, false, false] rfl rfl rfl rfl rfl (by kernel_rfl) rfl (by kernel_rfl) (by kernel_rfl) (fun _ _ _ h => h) ?_
                  refine GA.branch (rs := [35]) (JOk.live (by exact Wlef) (JOk.live (by exact Wix) (JOk.live (by exact Wlb) (JOk.live (by exact Wle) (JOk.live (by exact Wix) (JOk.live (by exact Wlef) (JOk.live (by exact Wix) (JOk.live (by exact Wlb) JOk.nil)))))))) (by kernel_rfl) (by simp) ?_
                  refine GAs.cons rfl ?_ ?_
                  · -- FfFTFtff op 35
                    refine GL.unwant rfl rfl rfl rfl ?_
                    refine GL.nil ?_
                    refine GE.any ?_
                    refine GA.branch (rs := [36]) (JOk.dead (by kernel_rfl) (JOk.dead (by kernel_rfl) (JOk.dead (by kernel_rfl) (JOk.dead (by kernel_rfl) (JOk.dead (by kernel_rfl) (JOk.dead (by kernel_rfl) (JOk.dead (by kernel_rfl) (JOk.dead (by kernel_rfl) JOk.nil)))))))) (by kernel_rfl) (by simp) ?_
                    refine GAs.cons rfl ?_ ?_
                    · -- FfFTFtff op 36
                      refine GL.unwant rfl rfl rfl rfl ?_
                      refine GL.nil ?_
                      refine GE.any ?_
                      refine GA.unwant 37 #[true, true, true, true, true, true, true, true, true, true, true, true, true, true, true, true, true, true, true, true, true, true, true, true, true, true, true, true, true, true, true, true, true, true, true, true, true, false, false, false] rfl rfl rfl rfl rfl (by kernel_rfl) rfl (by kernel_rfl) (by kernel_rfl) (fun _ _ _ h => h) ?_
                      refine GA.take_want 38 #[true, true, true, true, true, true, true, true, true, true, true, true, true, true, true, true, true, true, true, true, true, true, true, true, true, true, true, true, true, true, true, true, true, true, true, true, true, true, false, false] rfl rfl rfl (by exact Ev.pick_false rfl rfl) rfl (by kernel_rfl) rfl (by kernel_rfl) (by kernel_rfl) (fun _ _ _ h => h) ?_
                      refine GA.take 39 #[true, true, true, true, true, true, true, true, true, true, true, true, true, true, true, true, true, true, true, true, true, true, true, true, true, true, true, true, true, true, true, true, true, true, true, true, true, true, true, false] rfl (by exact Ev.pick_false rfl rfl) rfl rfl (by kernel_rfl) rfl (by kernel_rfl) (by kernel_rfl) (fun _ _ _ h => h) ?_
                      refine GA.done (JOk.dead (by kernel_rfl) (JOk.dead (by kernel_rfl) (JOk.dead (by kernel_rfl) (JOk.dead (by kernel_rfl) (JOk.dead (by kernel_rfl) (JOk.dead (by kernel_rfl) (JOk.dead (by kernel_rfl) (JOk.dead (by kernel_rfl) JOk.nil)))))))) (by kernel_rfl) ?_
                      refine GE.seq ?_
                      refine GC.cond_false rfl ?_
                      refine GC.skip ?_
                      refine GE.block ?_
                      refine GE.seq ?_
                      refine GC.region ?_
                      refine GL.v Wmv ?_
                      refine GL.v Wad ?_
                      refine GL.v Wag ?_
                      refine GL.nil ?_
                      -- round of loop 1, path FfFTFtff
                      refine GE.round (i + 1) (by omega) (by omega) Wkp Wsb
                    exact GAs.nil
                  exact GAs.nil
            · -- FfFTFf
              refine GA.unwant 8 #[true, true, true, true, true, true, true, true, false, true, false, false, false, false, false, false, false, false, false, false, false, false, false, false, false, false, false, false, false, false, false, false, false, false, false, false, false, false, false, false] rfl rfl rfl rfl rfl (by kernel_rfl) rfl (by kernel_rfl) (by kernel_rfl) (fun _ _ _ h => h) ?_
              refine GA.unwant 9 #[true, true, true, true, true, true, true, true, true, false, false, false, false, false, false, false, false, false, false, false, false, false, false, false, false, false, false, false, false, false, false, false, false, false, false, false, false, false, false, false] rfl rfl rfl rfl rfl (by kernel_rfl) rfl (by kernel_rfl) (by kernel_rfl) (fun _ _ _ h => h) ?_
              refine GA.unwant 10 #[true, true, true, true, true, true, true, true, true, true, false, false, false, false, false, false, false, false, false, false, false, false, false, false, false, false, false, false, false, false, false, false, false, false, false, false, false, false, false, false] rfl rfl rfl rfl rfl (by kernel_rfl) rfl (by kernel_rfl) (by kernel_rfl) (fun _ _ _ h => h) ?_
              refine GA.unwant 11 #[true, true, true, true, true, true, true, true, true, true, true, false, false, false, false, false, false, false, false, false, false, false, false, false, false, false, false, false, false, false, false, false, false, false, false, false, false, false, false, false] rfl rfl rfl rfl rfl (by kernel_rfl) rfl (by kernel_rfl) (by kernel_rfl) (fun _ _ _ h => h) ?_
              refine GA.unwant 12 #[true, true, true, true, true, true, true, true, true, true, true, true, false, false, false, false, false, false, false, false, false, false, false, false, false, false, false, false, false, false, false, false, false, false, false, false, false, false, false, false] rfl rfl rfl rfl rfl (by kernel_rfl) rfl (by kernel_rfl) (by kernel_rfl) (fun _ _ _ h => h) ?_
              refine GA.unwant 13 #[true, true, true, true, true, true, true, true, true, true, true, true, true, false, false, false, false, false, false, false, false, false, false, false, false, false, false, false, false, false, false, false, false, false, false, false, false, false, false, false] rfl rfl rfl rfl rfl (by kernel_rfl) rfl (by kernel_rfl) (by kernel_rfl) (fun _ _ _ h => h) ?_
              refine GA.take 14 #[true, true, true, true, true, true, true, true, true, true, true, true, true, true, false, false, false, false, false, false, false, false, false, false, false, false, false, false, false, false, false, false, false, false, false, false, false, false, false, false] rfl (by exact Ev.pick_false rfl rfl) rfl rfl (by kernel_rfl) rfl (by kernel_rfl) (by kernel_rfl) (fun _ _ _ h => h) ?_
              refine GA.take 15 #[true, true, true, true, true, true, true, true, true, true, true, true, true, true, true, false, false, false, false, false, false, false, false, false, false, false, false, false, false, false, false, false, false, false, false, false, false, false, false, false] rfl (by exact Ev.move rfl) rfl rfl (by kernel_rfl) rfl (by kernel_rfl) (by kernel_rfl) (fun _ _ _ h => h) ?_
              refine GA.take_want 16 #[true, true, true, true, true, true, true, true, true, true, true, true, true, true, true, true, false, false, true, false, false, false, false, false, false, false, false, false, false, false, false, false, false, false, false, false, false, false, false, false] rfl rfl rfl (by exact Ev.fieldAddr rfl) rfl (by kernel_rfl) rfl (by kernel_rfl) (by kernel_rfl) (fun _ _ _ h => h) ?_
              refine GA.read_want 17 #[true, true, true, true, true, true, true, true, true, true, true, true, true, true, true, true, true, false, true, false, false, false, false, false, false, false, false, false, false, false, false, false, false, false, false, false, false, false, false, false] rfl rfl rfl (by exact Wlb) rfl (by kernel_rfl) rfl (by kernel_rfl) (by kernel_rfl) (fun _ _ _ h => h) ?_
              refine GA.take_want 18 #[true, true, true, true, true, true, true, true, true, true, true, true, true, true, true, true, true, true, false, false, false, false, false, false, false, false, false, false, false, false, false, false, false, false, false, false, false, false, false, false] rfl rfl rfl (by exact Ev.move rfl) rfl (by kernel_rfl) rfl (by kernel_rfl) (by kernel_rfl) (fun _ _ _ h => h) ?_
              refine GA.read_want 19 #[true, true, true, true, true, true, true, true, true, true, true, true, true, true, true, true, true, true, true, false, false, false, false, false, false, false, false, false, false, false, false, false, false, false, false, false, false, false, false, false] rfl rfl rfl (by exact Wix) rfl (by kernel_rfl) rfl (by kernel_rfl) (by kernel_rfl) (fun _ _ _ h => h) ?_
              refine GA.take_want 20 #[true, true, true, true, true, true, true, true, true, true, true, true, true, true, true, true, true, true, true, true, false, false, false, false, false, false, false, false, false, false, false, false, false, false, false, false, false, false, false, false] rfl rfl rfl (by exact Ev.fieldAddr rfl) rfl (by kernel_rfl) rfl (by kernel_rfl) (by kernel_rfl) (fun _ _ _ h => h) ?_
              refine GA.read_want 21 #[true, true, true, true, true, true, true, true, true, true, true, true, true, true, true, true, true, true, true, true, true, false, false, false, false, false, false, false, false, false, false, false, false, false, false, false, false, false, false, false] rfl rfl rfl (by exact Wlef) rfl (by kernel_rfl) rfl (by kernel_rfl) (by kernel_rfl) (fun _ _ _ h => h) ?_
              refine GA.take_want 22 #[true, true, true, true, true, true, true, true, true, true, true, true, true, true, true, true, true, true, true, true, true, true, false, false, false, false, false, false, false, false, false, false, false, false, false, false, false, false, false, false] rfl rfl rfl (by exact Ev.neq rfl rfl) rfl (by kernel_rfl) rfl (by kernel_rfl) (by kernel_rfl) (fun _ _ _ h => h) ?_
              refine GA.take_want 23 #[true, true, true, true, true, true, true, true, true, true, true, true, true, true, true, true, true, true, true, true, true, true, true, false, false, false, false, false, false, false, false, false, false, false, false, false, false, false, false, false] rfl rfl rfl (by exact Ev.move rfl) rfl (by kernel_rfl) rfl (by kernel_rfl) (by kernel_rfl) (fun _ _ _ h => h) ?_
              first | refine GA.split_dec (d := 100) rfl (fun h7 => ?_) (fun h7 => ?_) | refine GA.split_ndec (d := 100) rfl (fun h7 => ?_) (fun h7 => ?_) | refine GA.split (d := 100) rfl (fun h7 => ?_) (fun h7 => ?_)
              · -- FfFTFft
                refine GA.take_want 24 #[true, true, true, true, true, true, true, true, true, true, true, true, true, true, true, true, true, true, true, true, true, true, true, true, false, true, false, false, true, true, true, true, true, true, true, true, false, false, false, false] rfl rfl rfl (by exact Ev.move rfl) rfl (by kernel_rfl) rfl (by kernel_rfl) (by kernel_rfl) (fun _ _ _ h => h) ?_
                refine GA.take_want 25 #[true, true, true, true, true, true, true, true, true, true, true, true, true, true, true, true, true, true, true, true, true, true, true, true, true, false, false, false, true, true, true, true, true, true, true, true, false, false, false, false] rfl rfl rfl (by exact Ev.move rfl) rfl (by kernel_rfl) rfl (by kernel_rfl) (by kernel_rfl) (fun _ _ _ h => h) ?_
                refine GA.read_want 26 #[true, true, true, true, true, true, true, true, true, true, true, true, true, true, true, true, true, true, true, true, true, true, true, true, true, true, false, false, true, true, true, true, true, true, true, true, false, false, false, false] rfl rfl rfl (by exact Wix) rfl (by kernel_rfl) rfl (by kernel_rfl) (by kernel_rfl) (fun _ _ _ h => h) ?_
                refine GA.read_want 27 #[true, true, true, true, true, true, true, true, true, true, true, true, true, true, true, true, true, true, true, true, true, true, true, true, true, true, true, false, true, true, true, true, true, true, true, true, false, false, false, false] rfl rfl rfl (by exact Wle) rfl (by kernel_rfl) rfl (by kernel_rfl) (by kernel_rfl) (fun _ _ _ h => h) ?_
                refine GA.take_want 28 #[true, true, true, true, true, true, true, true, true, true, true, true, true, true, true, true, true, true, true, true, true, true, true, true, true, true, true, true, false, false, true, false, false, false, true, false, false, false, false, false] rfl rfl rfl (by exact Ev.fieldAddr rfl) rfl (by kernel_rfl) rfl (by kernel_rfl) (by kernel_rfl) (fun _ _ _ h => h) ?_
                refine GA.read_want 29 #[true, true, true, true, true, true, true, true, true, true, true, true, true, true, true, true, true, true, true, true, true, true, true, true, true, true, true, true, true, false, true, false, false, false, true, false, false, false, false, false] rfl rfl rfl (by exact Wlb) rfl (by kernel_rfl) rfl (by kernel_rfl) (by kernel_rfl) (fun _ _ _ h => h) ?_
                refine GA.take_want 30 #[true, true, true, true, true, true, true, true, true, true, true, true, true, true, true, true, true, true, true, true, true, true, true, true, true, true, true, true, true, true, false, false, false, false, true, false, false, false, false, false] rfl rfl rfl (by exact Ev.move rfl) rfl (by kernel_rfl) rfl (by kernel_rfl) (by kernel_rfl) (fun _ _ _ h => h) ?_
                refine GA.read_want 31 #[true, true, true, true, true, true, true, true, true, true, true, true, true, true, true, true, true, true, true, true, true, true, true, true, true, true, true, true, true, true, true, false, false, false, true, false, false, false, false, false] rfl rfl rfl (by exact Wix) rfl (by kernel_rfl) rfl (by kernel_rfl) (by kernel_rfl) (fun _ _ _ h => h) ?_
                refine GA.take_want 32 #[true, true, true, true, true, true, true, true, true, true, true, true, true, true, true, true, true, true, true, true, true, true, true, true, true, true, true, true, true, true, true, true, false, false, true, false, false, false, false, false] rfl rfl rfl (by exact Ev.fieldAddr rfl) rfl (by kernel_rfl) rfl (by kernel_rfl) (by kernel_rfl) (fun _ _ _ h => h) ?_
                refine GA.read_want 33 #[true, true, true, true, true, true, true, true, true, true, true, true, true, true, true, true, true, true, true, true, true, true, true, true, true, true, true, true, true, true, true, true, true, false, true, false, false, false, false, false] rfl rfl rfl (by exact Wlef1) rfl (by kernel_rfl) rfl (by kernel_rfl) (by kernel_rfl) (fun _ _ _ h => h) ?_
                refine GA.take_want 34 #[true, true, true, true, true, true, true, true, true, true, true, true, true, true, true, true, true, true, true, true, true, true, true, true, true, true, true, true, true, true, true, true, true, true, false, false, false, false, false, false] rfl rfl rfl (by exact Ev.move rfl) rfl (by kernel_rfl) rfl (by kernel_rfl) (by kernel_rfl) (fun _ _ _ h => h) ?_
                refine GA.branch (rs := [35]) (JOk.live (by exact Wlef1) (JOk.live (by exact Wix) (JOk.live (by exact Wlb) (JOk.live (by exact Wle) (JOk.live (by exact Wix) (JOk.live (by exact Wlef) (JOk.live (by exact Wix) (JOk.live (by exact Wlb) (JOk.live (by exact Wlef) (JOk.live (by exact Wix) (JOk.live (by exact Wlb) JOk.nil))))))))))) (by kernel_rfl) (by simp) ?_
                refine GAs.cons rfl ?_ ?_
                · -- FfFTFft op 35
                  refine GL.want rfl rfl ?_
                  refine GL.call rfl rfl (iReadsOf_spec _ _ _ _ _ Wrd _ _ _ Wrd Wom) ?_
                  rintro _ _ ⟨B112, d112, rfl, rfl⟩
                  refine GL.nil ?_
                  refine GE.any ?_
                  refine GA.branch (rs := [36]) (JOk.dead (by kernel_rfl) (JOk.dead (by kernel_rfl) (JOk.dead (by kernel_rfl) (JOk.live (by exact Wle) (JOk.live (by exact Wix) (JOk.dead (by kernel_rfl) (JOk.dead (by kernel_rfl) (JOk.dead (by kernel_rfl) (JOk.dead (by kernel_rfl) (JOk.dead (by kernel_rfl) (JOk.dead (by kernel_rfl) JOk.nil))))))))))) (by kernel_rfl) (by simp) ?_
                  refine GAs.cons rfl ?_ ?_
                  · -- FfFTFft op 36
                    refine GL.want rfl rfl ?_
                    refine GL.callF rfl rfl (equalInts_spec _ _ _ _ _ Wrd _ _ _ Wrd Wom) ?_
                    refine GL.nil ?_
                    refine GE.any ?_
                    refine GA.take_want 37 #[true, true, true, true, true, true, true, true, true, true, true, true, true, true, true, true, true, true, true, true, true, true, true, true, true, true, true, true, true, true, true, true, true, true, true, true, true, false, false, false] rfl rfl rfl (by exact Ev.not rfl) rfl (by kernel_rfl) rfl (by kernel_rfl) (by kernel_rfl) (fun _ _ _ h => h) ?_
                    refine GA.take_want 38 #[true, true, true, true, true, true, true, true, true, true, true, true, true, true, true, true, true, true, true, true, true, true, true, true, true, true, true, true, true, true, true, true, true, true, true, true, true, true, false, false] rfl rfl rfl (by exact Ev.pick_true rfl rfl) rfl (by kernel_rfl) rfl (by kernel_rfl) (by kernel_rfl) (fun _ _ _ h => h) ?_
                    refine GA.take 39 #[true, true, true, true, true, true, true, true, true, true, true, true, true, true, true, true, true, true, true, true, true, true, true, true, true, true, true, true, true, true, true, true, true, true, true, true, true, true, true, false] rfl (by exact Ev.pick_false rfl rfl) rfl rfl (by kernel_rfl) rfl (by kernel_rfl) (by kernel_rfl) (fun _ _ _ h => h) ?_
                    refine GA.done (JOk.dead (by kernel_rfl) (JOk.dead (by kernel_rfl) (JOk.dead (by kernel_rfl) (JOk.dead (by kernel_rfl) (JOk.dead (by kernel_rfl) (JOk.dead (by kernel_rfl) (JOk.dead (by kernel_rfl) (JOk.dead (by kernel_rfl) (JOk.dead (by kernel_rfl) (JOk.dead (by kernel_rfl) (JOk.dead (by kernel_rfl) JOk.nil))))))))))) (by kernel_rfl) ?_
                    refine GE.seq ?_
                    refine GC.ifs (fun h8 => ?_) (fun h8 => ?_)
                    · -- FfFTFftT
                      have hk0 : (gr ms14)[i].kind ≠ 0 := by rw [gr_get]; exact h6
                      have hft := mean_fit hV hK hig hk0
                      rw [gr_get] at hft
                      have hdd := depAt_der (xs := xs14) hig hk0
                      rw [gr_get] at hdd
                      refine absurd ?_ h8
                      rw [hde, hdd]
                      exact (rdsL_yes hft).symm
                    · -- FfFTFftF
                      refine GC.skip ?_
                      refine GE.block ?_
                      refine GE.seq ?_
                      refine GC.region ?_
                      refine GL.v Wmv ?_
                      refine GL.v Wad ?_
                      refine GL.v Wag ?_
                      refine GL.nil ?_
                      -- round of loop 1, path FfFTFftF
                      refine GE.round (i + 1) (by omega) (by omega) Wkp Wsb
                  exact GAs.nil
                exact GAs.nil
              · -- FfFTFff
                exact absurd h7 h6
        · -- FfFF
          refine GC.exit ?_
          refine GE.seq_exit ?_
          refine GE.loop_exit ?_
          refine GE.block_exit ?_
          refine GE.seq ?_
          refine GC.seq ?_
          refine GC.region ?_
          refine GL.v Wmv ?_
          refine GL.v Wln ?_
          refine GL.v Wfa ?_
          refine GL.v Wlb ?_
          refine GL.v Wln ?_
          refine GL.v Weq ?_
          refine GL.v Wag ?_
          refine GL.nil ?_
          refine GE.seq ?_
          refine GC.ret ?_
          -- returns, path FfFF
          refine GE.ret_tmp (L' := L) (.inl rfl) rfl rfl Wsb ?_
          exact ⟨by rw [decide_eq_true (by omega)], rfl⟩
theorem fnDepsOf_calls {H : Type} {enc : TypeId × Value → H} {W : World} {base : Nat} {args : Array Value} {ds : List (DataW H)} {p : List MemPlace} (hval : ∀ (j : Nat) t v, Try.f4.params[j]? = some t → args[j]? = some v → Value.okWide Try.prog W .any base t v)
    (hA : DataW.TrodAll enc Try.prog W 0 (fun _ => true) true Try.f4.params.toList args.toList ds p) : Tr Try.prog 4 args W [] (fun v L' => v = .bool true ∧ L' = []) := by
  rw [Try.params4] at hA hval
  obtain ⟨v0, vs0, d0, ds0, p0, q0, hargs, rfl, rfl, h0, r0⟩ := trodAll_cons hA
  obtain ⟨rfl, rfl, rfl⟩ := trodAll_nil r0
  obtain rfl : args = #[v0] := by cases args; simp_all
  obtain ⟨A, c, bs, rfl, hR, hb⟩ := arg_sl (E := byteE) (st := 22) (by kernel_rfl) (opens_bytes W) (hval 0 _ v0 rfl rfl) h0
  exact FnDepsOf_spec W [] A c bs hR (fun x hx => wf_u8 (hb x hx))
theorem fnDepsOf_lifted (os : Os) (started : os.Started) (H : Type) (enc : TypeId × Value → H) :
    ReturnsInHanded {} Try.checked os 4 .any (Ytojffodplphlaaa.Rows.fnDepsOfSpec.pre6 enc Try.prog Try.f4 Ytojffodplphlaaa.Rows.fnDepsOfRow.domain false) (Ytojffodplphlaaa.Rows.fnDepsOfSpec.post enc Try.prog Try.f4 false true false false) := by
  refine returnsInHanded_of_change (C := Try.checked) own started (by kernel_rfl) Try.func4
    (ChangeSpec.witness6 (enc := enc) (C := Try.checked) false ⟨#[], #[.slice none 0 0], []⟩ 8 (by kernel_rfl) (by kernel_rfl) (by kernel_rfl) (by kernel_rfl)) ?_
  intro W base args ds gs before hval0 hW hcnd _
  have hval : ∀ (j : Nat) t v, Try.f4.params[j]? = some t → args[j]? = some v → Value.okWide Try.prog W .any base t v := hval0
  have hW' := hW
  obtain ⟨p, q, hA0, _⟩ := hW
  have hA : DataW.TrodAll enc Try.prog W 0 (fun _ => true) true Try.f4.params.toList args.toList ds p := hA0
  have hlen : ds.length = Try.f4.params.toList.length := trodAll_len hA
  rw [Try.params4] at hlen
  refine ((fnDepsOf_calls hval hA).go W (St.start W)).mono ?_
  rintro e W' ⟨v, L', ⟨rfl, rfl⟩, rfl, hs⟩
  exact ⟨_, rfl, law_post kids full (by rw [Try.params4]; decide) hW' rfl (fun hg => by subst hg; match ds, hlen with | [_], _ => exact bool_res) (fun hg => by subst hg; match ds, hlen with | [_], _ => rfl) (fun hg => by subst hg; match ds, hlen with | [_], _ => rfl) hs.below⟩
theorem fnDepsOf_over : Ytojffodplphlaaa.Rows.fnDepsOfRow.holds Try.pinned (OpenSpec.ofChange Ytojffodplphlaaa.Rows.fnDepsOfSpec) :=
  OpenClaim.holds_of_wide 4 Try.f4 rfl rfl rfl rfl rfl rfl rfl ⟨rfl, rfl, rfl, rfl, rfl⟩ rfl rfl rfl rfl rfl (by kernel_rfl) Try.func4 (by kernel_rfl)
    (of_decide_eq_true (by kernel_rfl)) (by unfold Func.isWrapper; first | (rw [if_pos (by decide +kernel)]; kernel_rfl) | (rw [if_neg (by decide +kernel)]; exact ⟨rfl, rfl⟩))
    (fun os started H enc _ => fnDepsOf_lifted os started H enc)
end SG
namespace Go.Proofs.Ytojffodplphlaaa
theorem fnDepsOf_proved : Rows.FnDepsOfSaid := SG.fnDepsOf_over
end Go.Proofs.Ytojffodplphlaaa
#print axioms Go.Proofs.Ytojffodplphlaaa.fnDepsOf_proved
