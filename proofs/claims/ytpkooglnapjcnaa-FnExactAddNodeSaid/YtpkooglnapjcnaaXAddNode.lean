/- The law FnExactAddNode holds for every input. -/
import Derived.Test.YtpkooglnapjcnaaD23
import Derived.Test.YtpkooglnapjcnaaD34
import Derived.Test.YtpkooglnapjcnaaRows
namespace SG
open Go Go.RowKit Go.Proofs Go.Proofs.Ytpkooglnapjcnaa Go.ChangeShapes Go.WideShapes Go.Deep
set_option linter.unusedVariables false
set_option linter.unusedSimpArgs false
set_option maxRecDepth 100000
theorem FnExactAddNode_spec (w0 : World) (L : List Asn) (A : Option Addr) (c : Nat) (ms : List NdM) (hG : RdL w0 L A c ms) (km : Int) (Am : Option Addr) (cm : Nat) (pm : List Part) (hM : Rd w0 L lpartE Am cm pm) :
    Tr Try.prog 8 #[.agg #[.slice A ms.length c], .agg #[.int .i64 km, .slice Am pm.length cm]] w0 L (fun v L' => v = .bool true ∧ L' = L) := by
  refine Tr.rd_cap hM fun hm1 hm2 => ?_
  refine Tr.enter (args := [.agg #[.slice A ms.length c], .agg #[.int .i64 km, .slice Am pm.length cm]]) Try.func8 Try.ntmps8 rfl rfl ?_
  refine GC.seq ?_
  refine GC.region ?_
  refine GL.box_agg rfl rfl ?_; intro g2
  refine GL.box_agg rfl rfl ?_; intro g3
  refine GL.v Wag ?_
  refine GL.nil ?_
  refine GE.seq ?_
  refine GC.seq ?_
  refine GC.region ?_
  refine GL.v Wag ?_
  refine GL.nil ?_
  refine GE.seq ?_
  refine GC.seq ?_
  refine GC.region ?_
  refine GL.v Wlba ?_
  refine GL.v Wmv ?_
  refine GL.call rfl rfl (szGraph2_spec _ _ _ _ _ (RdL.imp (by assumption) Wim) _ (by omega) (by omega)) ?_
  rintro _ _ ⟨x19, rfl, x19a, x19b, x19c, e19⟩
  rw [e19]; clear e19
  refine GL.v Wag ?_
  refine GL.nil ?_
  refine GE.seq ?_
  refine GC.seq ?_
  refine GC.seq ?_
  refine GC.region ?_
  refine GL.v Wmv ?_
  refine GL.v Wls ?_
  refine GL.nil ?_
  refine GE.seq ?_
  refine GC.ifs (fun h1 => ?_) (fun h1 => ?_)
  · -- T
    refine GC.seq ?_
    refine GC.region ?_
    refine GL.v Wag ?_
    refine GL.nil ?_
    refine GE.seq ?_
    refine GC.ret ?_
    refine GE.seq_ret ?_
    -- returns, path T
    refine GE.ret_tmp (L' := L) (.inl rfl) rfl rfl Wsb ?_
    exact ⟨rfl, rfl⟩
  · -- F
    have hS := (x19c (by omega)).1
    have hSx := (x19c (by omega)).2
    have hSl := hS.1
    refine GC.skip ?_
    refine GE.seq ?_
    refine GC.seq ?_
    refine GC.region ?_
    refine GL.v Wlba ?_
    refine GL.v Wmv ?_
    refine GL.callF rfl rfl (szNode_spec _ _ _ _ _ _ _ Wom Wom Wom) ?_
    refine GL.v Wag ?_
    refine GL.nil ?_
    refine GE.seq ?_
    refine GC.seq ?_
    refine GC.seq ?_
    refine GC.region ?_
    refine GL.v Wmv ?_
    refine GL.v Wls ?_
    refine GL.nil ?_
    refine GE.seq ?_
    refine GC.ifs (fun h2 => ?_) (fun h2 => ?_)
    · -- FT
      refine GC.seq ?_
      refine GC.region ?_
      refine GL.v Wag ?_
      refine GL.nil ?_
      refine GE.seq ?_
      refine GC.ret ?_
      refine GE.seq_ret ?_
      -- returns, path FT
      refine GE.ret_tmp (L' := L) (.inl rfl) rfl rfl Wsb ?_
      exact ⟨rfl, rfl⟩
    · -- FF
      have hpm : pm.length ≤ 1048576 := by split at h2 <;> omega
      refine GC.skip ?_
      refine GE.seq ?_
      -- mid 8: carried slots [6, 7]
      refine GC.seq_mid (β := Nat × Option Addr × Nat × List NdM) (fun b => gr b.2.2.2 = addL (gr ms) ⟨km, pm⟩) (fun b => [(6, .pointer (some ⟨b.1, 0, none⟩)), (7, .bool (addB (gr ms) ⟨km, pm⟩))]) [(2, _), (3, _)] (fun b => row nodeE b.2.1 b.2.2.1 b.2.2.2 :: partsA b.2.2.2 :: blk b.1 25 [.slice b.2.1 b.2.2.2.length b.2.2.1] :: blk g2 36 [.slice A ms.length c] :: blk g3 64 [.int .i64 km, .slice Am pm.length cm] :: L) Wkp ?_ ?_
      ·
        refine GC.region_any #[false, true, false, true, true, false, false, false, true, true, false] mixed ?_
        refine GA.read 0 #[false, false, true, false, false, false, false, false, true, false, false] rfl (by exact Wlba) rfl rfl (by kernel_rfl) rfl (by kernel_rfl) (by kernel_rfl) (fun _ _ _ h => h) ?_
        refine GA.read 2 #[true, true, false, false, false, false, false, false, true, false, false] rfl (by exact Wlba) rfl rfl (by kernel_rfl) rfl (by kernel_rfl) (by kernel_rfl) (fun _ _ _ h => h) ?_
        refine GA.branch (rs := [1, 8]) (JOk.live (by exact Wlba) (JOk.live (by exact Wlba) JOk.nil)) (by kernel_rfl) (by simp) ?_
        refine GAs.cons rfl ?_ ?_
        · -- FF.1 op 1
          refine GL.call rfl rfl (toGraph_spec _ _ _ _ _ (RdL.imp (by assumption) Wim) (by assumption)) ?_
          rintro _ _ ⟨B29, ns29, hgr29, rfl, rfl⟩
          have hS29 := SizeG.gr (by assumption) hgr29
          have hl29 : ns29.length = ms.length := by have := congrArg List.length hgr29; simpa using this
          refine GL.nil ?_
          refine GE.any ?_
          refine GA.branch (rs := [3, 8]) (JOk.live (by exact Wlba) (JOk.dead (by kernel_rfl) JOk.nil)) (by kernel_rfl) (by simp) ?_
          refine GAs.cons rfl ?_ ?_
          · -- FF.1.3 op 3
            refine GL.call rfl rfl (toNode_spec _ _ _ _ _ _ Wrd Wom) ?_
            rintro _ _ ⟨B31, rfl, rfl⟩
            refine GL.nil ?_
            refine GE.any ?_
            refine GA.branch (rs := [4, 8]) (JOk.dead (by kernel_rfl) (JOk.dead (by kernel_rfl) JOk.nil)) (by kernel_rfl) (by simp) ?_
            refine GAs.cons rfl ?_ ?_
            · -- FF.1.3.4 op 4
              refine GL.call rfl rfl (sAddNode_spec _ _ _ _ _ (by first | assumption | exact RdG.imp (by assumption) Wim | exact RdG.of_pick Wpk Wpk) _ _ _ _ Wrd (by assumption) Wom Wom) ?_
              rintro _ _ ⟨B32, d32, ns32, hgr32, rfl, rfl⟩
              rw [hgr29] at hgr32 ⊢
              refine GL.nil ?_
              refine GE.any ?_
              refine GA.take 5 #[true, true, true, true, true, false, false, false, true, false, false] rfl (by exact Ev.move rfl) rfl rfl (by kernel_rfl) rfl (by kernel_rfl) (by kernel_rfl) (fun _ _ _ h => h) ?_
              refine GA.take 6 #[true, true, true, true, true, true, false, true, true, false, false] rfl (by exact Ev.extract rfl rfl) rfl rfl (by kernel_rfl) rfl (by kernel_rfl) (by kernel_rfl) (fun _ _ _ h => h) ?_
              refine GA.take 7 #[true, true, true, true, true, true, true, false, true, true, false] rfl (by exact Ev.extract rfl rfl) rfl rfl (by kernel_rfl) rfl (by kernel_rfl) (by kernel_rfl) (fun _ _ _ h => h) ?_
              refine GA.branch (rs := [8]) (JOk.dead (by kernel_rfl) (JOk.dead (by kernel_rfl) JOk.nil)) (by kernel_rfl) (by simp) ?_
              refine GAs.cons rfl ?_ ?_
              · -- FF.1.3.4 op 8
                refine GL.alloc rfl ?_; intro g6
                refine GL.nil ?_
                refine GE.any ?_
                refine GA.branch (rs := [9]) (JOk.dead (by kernel_rfl) (JOk.dead (by kernel_rfl) JOk.nil)) (by kernel_rfl) (by simp) ?_
                refine GAs.cons rfl ?_ ?_
                · -- FF.1.3.4 op 9
                  refine GL.store_varN rfl rfl rfl Wpk (by rfl) (by rfl) (by rfl) ?_
                  refine GL.nil ?_
                  refine GE.any ?_
                  refine GA.take 10 #[true, true, true, true, true, true, true, true, true, true, false] rfl (by exact Ev.assign rfl) rfl rfl (by kernel_rfl) rfl (by kernel_rfl) (by kernel_rfl) (fun _ _ _ h => h) ?_
                  refine GA.done (JOk.dead (by kernel_rfl) (JOk.dead (by kernel_rfl) JOk.nil)) (by kernel_rfl) ?_
                  refine GE.mid ((g6, B32, d32, ns32) : Nat × Option Addr × Nat × List NdM) hgr32 Wkp Wsb
                exact GAs.nil
              exact GAs.nil
            refine GAs.cons rfl ?_ ?_
            · -- FF.1.3.8 op 8
              refine GL.alloc rfl ?_; intro g6
              refine GL.nil ?_
              refine GE.any ?_
              refine GA.branch (rs := [4]) (JOk.dead (by kernel_rfl) (JOk.dead (by kernel_rfl) JOk.nil)) (by kernel_rfl) (by simp) ?_
              refine GAs.cons rfl ?_ ?_
              · -- FF.1.3.8 op 4
                refine GL.call rfl rfl (sAddNode_spec _ _ _ _ _ (by first | assumption | exact RdG.imp (by assumption) Wim | exact RdG.of_pick Wpk Wpk) _ _ _ _ Wrd (by assumption) Wom Wom) ?_
                rintro _ _ ⟨B32, d32, ns32, hgr32, rfl, rfl⟩
                rw [hgr29] at hgr32 ⊢
                refine GL.nil ?_
                refine GE.any ?_
                refine GA.take 5 #[true, true, true, true, true, false, false, false, true, false, false] rfl (by exact Ev.move rfl) rfl rfl (by kernel_rfl) rfl (by kernel_rfl) (by kernel_rfl) (fun _ _ _ h => h) ?_
                refine GA.take 6 #[true, true, true, true, true, true, false, true, true, false, false] rfl (by exact Ev.extract rfl rfl) rfl rfl (by kernel_rfl) rfl (by kernel_rfl) (by kernel_rfl) (fun _ _ _ h => h) ?_
                refine GA.take 7 #[true, true, true, true, true, true, true, false, true, true, false] rfl (by exact Ev.extract rfl rfl) rfl rfl (by kernel_rfl) rfl (by kernel_rfl) (by kernel_rfl) (fun _ _ _ h => h) ?_
                refine GA.branch (rs := [9]) (JOk.dead (by kernel_rfl) (JOk.dead (by kernel_rfl) JOk.nil)) (by kernel_rfl) (by simp) ?_
                refine GAs.cons rfl ?_ ?_
                · -- FF.1.3.8 op 9
                  refine GL.store_varN rfl rfl rfl Wpk (by rfl) (by rfl) (by rfl) ?_
                  refine GL.nil ?_
                  refine GE.any ?_
                  refine GA.take 10 #[true, true, true, true, true, true, true, true, true, true, false] rfl (by exact Ev.assign rfl) rfl rfl (by kernel_rfl) rfl (by kernel_rfl) (by kernel_rfl) (fun _ _ _ h => h) ?_
                  refine GA.done (JOk.dead (by kernel_rfl) (JOk.dead (by kernel_rfl) JOk.nil)) (by kernel_rfl) ?_
                  refine GE.mid ((g6, B32, d32, ns32) : Nat × Option Addr × Nat × List NdM) hgr32 Wkp Wsb
                exact GAs.nil
              exact GAs.nil
            exact GAs.nil
          refine GAs.cons rfl ?_ ?_
          · -- FF.1.8 op 8
            refine GL.alloc rfl ?_; intro g6
            refine GL.nil ?_
            refine GE.any ?_
            refine GA.branch (rs := [3]) (JOk.live (by exact Wlba) (JOk.dead (by kernel_rfl) JOk.nil)) (by kernel_rfl) (by simp) ?_
            refine GAs.cons rfl ?_ ?_
            · -- FF.1.8 op 3
              refine GL.call rfl rfl (toNode_spec _ _ _ _ _ _ Wrd Wom) ?_
              rintro _ _ ⟨B31, rfl, rfl⟩
              refine GL.nil ?_
              refine GE.any ?_
              refine GA.branch (rs := [4]) (JOk.dead (by kernel_rfl) (JOk.dead (by kernel_rfl) JOk.nil)) (by kernel_rfl) (by simp) ?_
              refine GAs.cons rfl ?_ ?_
              · -- FF.1.8 op 4
                refine GL.call rfl rfl (sAddNode_spec _ _ _ _ _ (by first | assumption | exact RdG.imp (by assumption) Wim | exact RdG.of_pick Wpk Wpk) _ _ _ _ Wrd (by assumption) Wom Wom) ?_
                rintro _ _ ⟨B32, d32, ns32, hgr32, rfl, rfl⟩
                rw [hgr29] at hgr32 ⊢
                refine GL.nil ?_
                refine GE.any ?_
                refine GA.take 5 #[true, true, true, true, true, false, false, false, true, false, false] rfl (by exact Ev.move rfl) rfl rfl (by kernel_rfl) rfl (by kernel_rfl) (by kernel_rfl) (fun _ _ _ h => h) ?_
                refine GA.take 6 #[true, true, true, true, true, true, false, true, true, false, false] rfl (by exact Ev.extract rfl rfl) rfl rfl (by kernel_rfl) rfl (by kernel_rfl) (by kernel_rfl) (fun _ _ _ h => h) ?_
                refine GA.take 7 #[true, true, true, true, true, true, true, false, true, true, false] rfl (by exact Ev.extract rfl rfl) rfl rfl (by kernel_rfl) rfl (by kernel_rfl) (by kernel_rfl) (fun _ _ _ h => h) ?_
                refine GA.branch (rs := [9]) (JOk.dead (by kernel_rfl) (JOk.dead (by kernel_rfl) JOk.nil)) (by kernel_rfl) (by simp) ?_
                refine GAs.cons rfl ?_ ?_
                · -- FF.1.8 op 9
                  refine GL.store_varN rfl rfl rfl Wpk (by rfl) (by rfl) (by rfl) ?_
                  refine GL.nil ?_
                  refine GE.any ?_
                  refine GA.take 10 #[true, true, true, true, true, true, true, true, true, true, false] rfl (by exact Ev.assign rfl) rfl rfl (by kernel_rfl) rfl (by kernel_rfl) (by kernel_rfl) (fun _ _ _ h => h) ?_
                  refine GA.done (JOk.dead (by kernel_rfl) (JOk.dead (by kernel_rfl) JOk.nil)) (by kernel_rfl) ?_
                  refine GE.mid ((g6, B32, d32, ns32) : Nat × Option Addr × Nat × List NdM) hgr32 Wkp Wsb
                exact GAs.nil
              exact GAs.nil
            exact GAs.nil
          exact GAs.nil
        refine GAs.cons rfl ?_ ?_
        · -- FF.8 op 8
          refine GL.alloc rfl ?_; intro g6
          refine GL.nil ?_
          refine GE.any ?_
          refine GA.branch (rs := [1]) (JOk.live (by exact Wlba) (JOk.live (by exact Wlba) JOk.nil)) (by kernel_rfl) (by simp) ?_
          refine GAs.cons rfl ?_ ?_
          · -- FF.8 op 1
            refine GL.call rfl rfl (toGraph_spec _ _ _ _ _ (RdL.imp (by assumption) Wim) (by assumption)) ?_
            rintro _ _ ⟨B29, ns29, hgr29, rfl, rfl⟩
            have hS29 := SizeG.gr (by assumption) hgr29
            have hl29 : ns29.length = ms.length := by have := congrArg List.length hgr29; simpa using this
            refine GL.nil ?_
            refine GE.any ?_
            refine GA.branch (rs := [3]) (JOk.live (by exact Wlba) (JOk.dead (by kernel_rfl) JOk.nil)) (by kernel_rfl) (by simp) ?_
            refine GAs.cons rfl ?_ ?_
            · -- FF.8 op 3
              refine GL.call rfl rfl (toNode_spec _ _ _ _ _ _ Wrd Wom) ?_
              rintro _ _ ⟨B31, rfl, rfl⟩
              refine GL.nil ?_
              refine GE.any ?_
              refine GA.branch (rs := [4]) (JOk.dead (by kernel_rfl) (JOk.dead (by kernel_rfl) JOk.nil)) (by kernel_rfl) (by simp) ?_
              refine GAs.cons rfl ?_ ?_
              · -- FF.8 op 4
                refine GL.call rfl rfl (sAddNode_spec _ _ _ _ _ (by first | assumption | exact RdG.imp (by assumption) Wim | exact RdG.of_pick Wpk Wpk) _ _ _ _ Wrd (by assumption) Wom Wom) ?_
                rintro _ _ ⟨B32, d32, ns32, hgr32, rfl, rfl⟩
                rw [hgr29] at hgr32 ⊢
                refine GL.nil ?_
                refine GE.any ?_
                refine GA.take 5 #[true, true, true, true, true, false, false, false, true, false, false] rfl (by exact Ev.move rfl) rfl rfl (by kernel_rfl) rfl (by kernel_rfl) (by kernel_rfl) (fun _ _ _ h => h) ?_
                refine GA.take 6 #[true, true, true, true, true, true, false, true, true, false, false] rfl (by exact Ev.extract rfl rfl) rfl rfl (by kernel_rfl) rfl (by kernel_rfl) (by kernel_rfl) (fun _ _ _ h => h) ?_
                refine GA.take 7 #[true, true, true, true, true, true, true, false, true, true, false] rfl (by exact Ev.extract rfl rfl) rfl rfl (by kernel_rfl) rfl (by kernel_rfl) (by kernel_rfl) (fun _ _ _ h => h) ?_
                refine GA.branch (rs := [9]) (JOk.dead (by kernel_rfl) (JOk.dead (by kernel_rfl) JOk.nil)) (by kernel_rfl) (by simp) ?_
                refine GAs.cons rfl ?_ ?_
                · -- FF.8 op 9
                  refine GL.store_varN rfl rfl rfl Wpk (by rfl) (by rfl) (by rfl) ?_
                  refine GL.nil ?_
                  refine GE.any ?_
                  refine GA.take 10 #[true, true, true, true, true, true, true, true, true, true, false] rfl (by exact Ev.assign rfl) rfl rfl (by kernel_rfl) rfl (by kernel_rfl) (by kernel_rfl) (fun _ _ _ h => h) ?_
                  refine GA.done (JOk.dead (by kernel_rfl) (JOk.dead (by kernel_rfl) JOk.nil)) (by kernel_rfl) ?_
                  refine GE.mid ((g6, B32, d32, ns32) : Nat × Option Addr × Nat × List NdM) hgr32 Wkp Wsb
                exact GAs.nil
              exact GAs.nil
            exact GAs.nil
          exact GAs.nil
        exact GAs.nil
      ·
        rintro ⟨g6, B32, d32, ns32⟩ hgr32
        dsimp only at hgr32 ⊢
        have hZ32 := sizeG_add hgr32 hS hSx (by omega)
        refine GC.seq ?_
        refine GC.region ?_
        refine GL.v Wlba ?_
        refine GL.call rfl rfl (toGraph_spec _ _ _ _ _ (RdL.imp (by assumption) Wim) (by assumption)) ?_
        rintro _ _ ⟨B36, ns36, hgr36, rfl, rfl⟩
        have hS36 := SizeG.gr (by assumption) hgr36
        have hl36 : ns36.length = ms.length := by have := congrArg List.length hgr36; simpa using this
        refine GL.alloc rfl ?_; intro g8
        refine GL.store_varN rfl rfl rfl Wpk (by rfl) (by rfl) (by rfl) ?_
        refine GL.nil ?_
        refine GE.seq ?_
        refine GC.seq ?_
        refine GC.region ?_
        refine GL.v Wlba ?_
        refine GL.call rfl rfl (toNode_spec _ _ _ _ _ _ Wrd Wom) ?_
        rintro _ _ ⟨B38, rfl, rfl⟩
        refine GL.alloc rfl ?_; intro g9
        refine GL.store_varN rfl rfl rfl Wpk (by rfl) (by rfl) (by rfl) ?_
        refine GL.nil ?_
        refine GE.seq ?_
        refine GC.seq ?_
        refine GC.region ?_
        refine GL.v Wlba ?_
        refine GL.v Wlba ?_
        refine GL.call rfl rfl (iAddNode_spec _ _ _ _ _ (by first | assumption | exact RdG.imp (by assumption) Wim | exact RdG.of_pick Wpk Wpk) _ _ _ _ Wrd (by assumption) Wom Wom) ?_
        rintro _ _ ⟨B42, d42, ns42, hgr42, rfl, rfl⟩
        rw [hgr36] at hgr42 ⊢
        have hZ42 := sizeG_add hgr42 hS hSx (by omega)
        refine GL.v Wmv ?_
        refine GL.v Wxt ?_
        refine GL.v Wxt ?_
        refine GL.alloc rfl ?_; intro g10
        refine GL.store_varN rfl rfl rfl Wpk (by rfl) (by rfl) (by rfl) ?_
        refine GL.v Wag ?_
        refine GL.nil ?_
        refine GE.seq ?_
        refine GC.seq ?_
        refine GC.seq ?_
        refine GC.region ?_
        refine GL.v Wlba ?_
        refine GL.v Wlba ?_
        refine GL.callF rfl rfl (eqGraph_spec _ _ _ _ _ (by first | assumption | exact RdG.imp (by assumption) Wim | exact RdG.of_pick Wpk Wpk) _ _ _ (by first | assumption | exact RdG.imp (by assumption) Wim | exact RdG.of_pick Wpk Wpk) (by assumption)) ?_
        refine GL.v Wnt ?_
        refine GL.v Wmv ?_
        refine GL.gs (fun h3 => ?_) (fun h3 => ?_)
        · -- FFt
          exact absurd (hgr42.trans hgr32.symm) h3
        · -- FFf
          refine GL.want rfl rfl ?_
          refine GL.v Wmv ?_
          refine GL.want rfl rfl ?_
          refine GL.v Wmv ?_
          refine GL.want rfl rfl ?_
          refine GL.v (by exact EvP.r (Ev.neq_bool rfl rfl)) ?_
          refine GL.v Wpf ?_
          refine GL.nil ?_
          refine GE.seq ?_
          refine GC.ifs (fun h4 => ?_) (fun h4 => ?_)
          · -- FFfT
            exact absurd rfl h4
          · -- FFfF
            refine GC.skip ?_
            refine GE.seq ?_
            refine GC.seq ?_
            refine GC.seq ?_
            refine GC.region_any #[false, false, true, true, false] mixed ?_
            refine GA.read 0 #[false, true, true, false, false] rfl (by exact Wlba) rfl rfl (by kernel_rfl) rfl (by kernel_rfl) (by kernel_rfl) (fun _ _ _ h => h) ?_
            refine GA.read 1 #[true, false, false, false, false] rfl (by exact Wlba) rfl rfl (by kernel_rfl) rfl (by kernel_rfl) (by kernel_rfl) (fun _ _ _ h => h) ?_
            refine GA.branch (rs := [2]) (JOk.live (by exact Wlba) (JOk.live (by exact Wlba) JOk.nil)) (by kernel_rfl) (by simp) ?_
            refine GAs.cons rfl ?_ ?_
            · -- FFfF op 2
              refine GL.call rfl rfl (toGraph_spec _ _ _ _ _ (RdL.imp (by assumption) Wim) (by assumption)) ?_
              rintro _ _ ⟨B56, ns56, hgr56, rfl, rfl⟩
              have hS56 := SizeG.gr (by assumption) hgr56
              refine GL.nil ?_
              refine GE.any ?_
              refine GA.branch (rs := [3]) (JOk.dead (by kernel_rfl) (JOk.live (by exact Wlba) JOk.nil)) (by kernel_rfl) (by simp) ?_
              refine GAs.cons rfl ?_ ?_
              · -- FFfF op 3
                refine GL.callF rfl rfl (eqGraph_spec _ _ _ _ _ (by first | assumption | exact RdG.imp (by assumption) Wim | exact RdG.of_pick Wpk Wpk) _ _ _ (by first | assumption | exact RdG.imp (by assumption) Wim | exact RdG.of_pick Wpk Wpk) (by assumption)) ?_
                refine GL.nil ?_
                refine GE.any ?_
                refine GA.take 4 #[true, true, true, true, false] rfl (by exact Ev.not rfl) rfl rfl (by kernel_rfl) rfl (by kernel_rfl) (by kernel_rfl) (fun _ _ _ h => h) ?_
                refine GA.done (JOk.dead (by kernel_rfl) (JOk.dead (by kernel_rfl) JOk.nil)) (by kernel_rfl) ?_
                refine GE.seq ?_
                refine GC.ifs (fun h5 => ?_) (fun h5 => ?_)
                · -- FFfFT
                  exact absurd (hgr36.trans hgr56.symm) h5
                · -- FFfFF
                  refine GC.skip ?_
                  refine GE.seq ?_
                  refine GC.seq ?_
                  refine GC.seq ?_
                  refine GC.region_any #[false, false, true, true, false] mixed ?_
                  refine GA.read 0 #[false, true, true, false, false] rfl (by exact Wlba) rfl rfl (by kernel_rfl) rfl (by kernel_rfl) (by kernel_rfl) (fun _ _ _ h => h) ?_
                  refine GA.read 1 #[true, false, false, false, false] rfl (by exact Wlba) rfl rfl (by kernel_rfl) rfl (by kernel_rfl) (by kernel_rfl) (fun _ _ _ h => h) ?_
                  refine GA.branch (rs := [2]) (JOk.live (by exact Wlba) (JOk.live (by exact Wlba) JOk.nil)) (by kernel_rfl) (by simp) ?_
                  refine GAs.cons rfl ?_ ?_
                  · -- FFfFF op 2
                    refine GL.call rfl rfl (toNode_spec _ _ _ _ _ _ Wrd Wom) ?_
                    rintro _ _ ⟨B61, rfl, rfl⟩
                    refine GL.nil ?_
                    refine GE.any ?_
                    refine GA.branch (rs := [3]) (JOk.dead (by kernel_rfl) (JOk.live (by exact Wlba) JOk.nil)) (by kernel_rfl) (by simp) ?_
                    refine GAs.cons rfl ?_ ?_
                    · -- FFfFF op 3
                      refine GL.callF rfl rfl (eqNode_spec _ _ ⟨km, B38, pm.length, pm⟩ ⟨km, B61, pm.length, pm⟩ Wrd Wrd (by show pm.length ≤ 1100000; omega)) ?_
                      refine GL.nil ?_
                      refine GE.any ?_
                      refine GA.take 4 #[true, true, true, true, false] rfl (by exact Ev.not rfl) rfl rfl (by kernel_rfl) rfl (by kernel_rfl) (by kernel_rfl) (fun _ _ _ h => h) ?_
                      refine GA.done (JOk.dead (by kernel_rfl) (JOk.dead (by kernel_rfl) JOk.nil)) (by kernel_rfl) ?_
                      refine GE.seq ?_
                      refine GC.ifs (fun h6 => ?_) (fun h6 => ?_)
                      · -- FFfFFT
                        exact absurd rfl h6
                      · -- FFfFFF
                        refine GC.skip ?_
                        refine GE.seq ?_
                        refine GC.seq ?_
                        refine GC.region ?_
                        refine GL.v Wag ?_
                        refine GL.nil ?_
                        refine GE.seq ?_
                        refine GC.seq ?_
                        refine GC.region ?_
                        refine GL.v Wlba ?_
                        refine GL.v Wmv ?_
                        refine GL.front (A := partsA ns36) Wpk ?_
                        refine GL.front (A := row nodeE B36 ns36.length ns36) Wpk ?_
                        refine GL.call rfl rfl (markGraph_spec w0 _ B36 ns36.length ns36 hS36 _ (by decide) (by decide)) ?_
                        rintro _ _ ⟨k66, ns66, qs66, rfl, k66a, k66b, rfl⟩
                        refine GL.v Wag ?_
                        refine GL.nil ?_
                        refine GE.seq ?_
                        refine GC.seq ?_
                        refine GC.region ?_
                        refine GL.v Wlba ?_
                        refine GL.v Wmv ?_
                        refine GL.callP rfl rfl Wpk (markNode_spec _ _ B38 _ pm km _ Wom Wom Wom) ?_
                        rintro _ _ ⟨rfl, yy, hyy, rfl⟩
                        refine GL.v Wag ?_
                        refine GL.nil ?_
                        refine GE.seq ?_
                        refine GC.seq ?_
                        refine GC.seq ?_
                        refine GC.region ?_
                        refine GL.v Wmv ?_
                        refine GL.v Wls ?_
                        refine GL.v Wmv ?_
                        refine GL.gs (fun h7 => ?_) (fun h7 => ?_)
                        · -- FFfFFFt
                          omega
                        · -- FFfFFFf
                          refine GL.want rfl rfl ?_
                          refine GL.v Wlba ?_
                          refine GL.want rfl rfl ?_
                          refine GL.v Wlba ?_
                          refine GL.want rfl rfl ?_
                          refine GL.callF rfl rfl (eqGraph_spec _ _ _ _ _ (by first | assumption | exact RdG.imp (by assumption) Wim | exact RdG.of_pick Wpk Wpk) _ _ _ (by first | assumption | exact RdG.imp (by assumption) Wim | exact RdG.of_pick Wpk Wpk) (by assumption)) ?_
                          refine GL.want rfl rfl ?_
                          refine GL.v Wnt ?_
                          refine GL.v Wpf ?_
                          refine GL.v Wmv ?_
                          refine GL.gs (fun h8 => ?_) (fun h8 => ?_)
                          · -- FFfFFFft
                            exact absurd (hgr42.trans hgr32.symm) h8
                          · -- FFfFFFff
                            refine GL.want rfl rfl ?_
                            refine GL.v Wmv ?_
                            refine GL.want rfl rfl ?_
                            refine GL.v Wmv ?_
                            refine GL.want rfl rfl ?_
                            refine GL.v (by exact EvP.r (Ev.neq_bool rfl rfl)) ?_
                            refine GL.v Wpf ?_
                            refine GL.nil ?_
                            refine GE.seq ?_
                            refine GC.ifs (fun h9 => ?_) (fun h9 => ?_)
                            · -- FFfFFFffT
                              exact absurd rfl h9
                            · -- FFfFFFffF
                              refine GC.skip ?_
                              refine GE.seq ?_
                              refine GC.seq ?_
                              refine GC.region ?_
                              refine GL.v Wag ?_
                              refine GL.nil ?_
                              refine GE.seq ?_
                              refine GC.seq ?_
                              refine GC.region ?_
                              refine GL.v Wlba ?_
                              refine GL.v Wmv ?_
                              refine GL.front (A := partsA ns42) Wpk ?_
                              refine GL.front (A := row nodeE B42 _ ns42) Wpk ?_
                              refine GL.call rfl rfl (markGraphX_spec w0 _ B42 _ ns42 hZ42 _ Wom Wom) ?_
                              rintro _ _ ⟨rfl, rfl⟩
                              have hkb := nAt_bound (k := 1) hZ42 ns42.length (Nat.le_refl _)
                              have hzl := hZ42.1
                              refine GL.v Wag ?_
                              refine GL.nil ?_
                              refine GE.seq ?_
                              refine GC.seq ?_
                              refine GC.region ?_
                              refine GL.v Wag ?_
                              refine GL.nil ?_
                              refine GE.seq ?_
                              refine GC.seq ?_
                              refine GC.region ?_
                              refine GL.v Wlba ?_
                              refine GL.v Wmv ?_
                              refine GL.callF rfl rfl (heldGraph_spec _ _ _ _ _ ns42 _ (RdG.of_pick Wpk Wpk) hZ42 rfl (by decide) (by decide)) ?_
                              refine GL.v Wag ?_
                              refine GL.nil ?_
                              refine GE.seq ?_
                              refine GC.seq ?_
                              refine GC.seq ?_
                              refine GC.region ?_
                              refine GL.v Wmv ?_
                              refine GL.v Wls ?_
                              refine GL.nil ?_
                              refine GE.seq ?_
                              refine GC.ifs (fun h10 => ?_) (fun h10 => ?_)
                              · -- FFfFFFffFT
                                omega
                              · -- FFfFFFffFF
                                refine GC.skip ?_
                                refine GE.seq ?_
                                refine GC.seq ?_
                                refine GC.seq ?_
                                refine GC.region ?_
                                refine GL.v Wmv ?_
                                refine GL.v Wmv ?_
                                refine GL.v Wnq ?_
                                refine GL.nil ?_
                                refine GE.seq ?_
                                refine GC.ifs (fun h11 => ?_) (fun h11 => ?_)
                                · -- FFfFFFffFFT
                                  exact absurd rfl h11
                                · -- FFfFFFffFFF
                                  refine GC.skip ?_
                                  refine GE.seq ?_
                                  -- mid 31: carried slots [15, 16]
                                  refine GC.seq_mid (β := Nat × Option Addr × Nat × List NdM) (fun b => gr b.2.2.2 = addL (gr ms) ⟨km, pm⟩) (fun b => [(15, .pointer (some ⟨b.1, 0, none⟩)), (16, .bool (addB (gr ms) ⟨km, pm⟩))]) [(2, _), (3, _), (6, _), (7, _), (10, _), (13, _)] (fun b => row nodeE b.2.1 b.2.2.1 b.2.2.2 :: partsA b.2.2.2 :: blk b.1 25 [.slice b.2.1 b.2.2.2.length b.2.2.1] :: row nodeE B42 d42 (markG 1 ns42) :: partsA (markG 1 ns42) :: row nodeE B32 d32 ns32 :: partsA ns32 :: blk g6 25 [.slice B32 ns32.length d32] :: blk g10 25 [.slice B42 ns42.length d42] :: L) Wkp ?_ ?_
                                  ·
                                    refine GC.region_any #[false, true, false, true, true, false, false, false, true, true, false] mixed ?_
                                    refine GA.read 0 #[false, false, true, false, false, false, false, false, true, false, false] rfl (by exact Wlba) rfl rfl (by kernel_rfl) rfl (by kernel_rfl) (by kernel_rfl) (fun _ _ _ h => h) ?_
                                    refine GA.read 2 #[true, true, false, false, false, false, false, false, true, false, false] rfl (by exact Wlba) rfl rfl (by kernel_rfl) rfl (by kernel_rfl) (by kernel_rfl) (fun _ _ _ h => h) ?_
                                    refine GA.branch (rs := [1, 8]) (JOk.live (by exact Wlba) (JOk.live (by exact Wlba) JOk.nil)) (by kernel_rfl) (by simp) ?_
                                    refine GAs.cons rfl ?_ ?_
                                    · -- FFfFFFffFFF.1 op 1
                                      refine GL.call rfl rfl (toGraph_spec _ _ _ _ _ (RdL.imp (by assumption) Wim) (by assumption)) ?_
                                      rintro _ _ ⟨B96, ns96, hgr96, rfl, rfl⟩
                                      have hS96 := SizeG.gr (by assumption) hgr96
                                      have hl96 : ns96.length = ms.length := by have := congrArg List.length hgr96; simpa using this
                                      refine GL.nil ?_
                                      refine GE.any ?_
                                      refine GA.branch (rs := [3, 8]) (JOk.live (by exact Wlba) (JOk.dead (by kernel_rfl) JOk.nil)) (by kernel_rfl) (by simp) ?_
                                      refine GAs.cons rfl ?_ ?_
                                      · -- FFfFFFffFFF.1.3 op 3
                                        refine GL.call rfl rfl (toNode_spec _ _ _ _ _ _ Wrd Wom) ?_
                                        rintro _ _ ⟨B98, rfl, rfl⟩
                                        refine GL.nil ?_
                                        refine GE.any ?_
                                        refine GA.branch (rs := [4, 8]) (JOk.dead (by kernel_rfl) (JOk.dead (by kernel_rfl) JOk.nil)) (by kernel_rfl) (by simp) ?_
                                        refine GAs.cons rfl ?_ ?_
                                        · -- FFfFFFffFFF.1.3.4 op 4
                                          refine GL.call rfl rfl (iAddNode_spec _ _ _ _ _ (by first | assumption | exact RdG.imp (by assumption) Wim | exact RdG.of_pick Wpk Wpk) _ _ _ _ Wrd (by assumption) Wom Wom) ?_
                                          rintro _ _ ⟨B99, d99, ns99, hgr99, rfl, rfl⟩
                                          rw [hgr96] at hgr99 ⊢
                                          refine GL.nil ?_
                                          refine GE.any ?_
                                          refine GA.take 5 #[true, true, true, true, true, false, false, false, true, false, false] rfl (by exact Ev.move rfl) rfl rfl (by kernel_rfl) rfl (by kernel_rfl) (by kernel_rfl) (fun _ _ _ h => h) ?_
                                          refine GA.take 6 #[true, true, true, true, true, true, false, true, true, false, false] rfl (by exact Ev.extract rfl rfl) rfl rfl (by kernel_rfl) rfl (by kernel_rfl) (by kernel_rfl) (fun _ _ _ h => h) ?_
                                          refine GA.take 7 #[true, true, true, true, true, true, true, false, true, true, false] rfl (by exact Ev.extract rfl rfl) rfl rfl (by kernel_rfl) rfl (by kernel_rfl) (by kernel_rfl) (fun _ _ _ h => h) ?_
                                          refine GA.branch (rs := [8]) (JOk.dead (by kernel_rfl) (JOk.dead (by kernel_rfl) JOk.nil)) (by kernel_rfl) (by simp) ?_
                                          refine GAs.cons rfl ?_ ?_
                                          · -- FFfFFFffFFF.1.3.4 op 8
                                            refine GL.alloc rfl ?_; intro g15
                                            refine GL.nil ?_
                                            refine GE.any ?_
                                            refine GA.branch (rs := [9]) (JOk.dead (by kernel_rfl) (JOk.dead (by kernel_rfl) JOk.nil)) (by kernel_rfl) (by simp) ?_
                                            refine GAs.cons rfl ?_ ?_
                                            · -- FFfFFFffFFF.1.3.4 op 9
                                              refine GL.store_varN rfl rfl rfl Wpk (by rfl) (by rfl) (by rfl) ?_
                                              refine GL.nil ?_
                                              refine GE.any ?_
                                              refine GA.take 10 #[true, true, true, true, true, true, true, true, true, true, false] rfl (by exact Ev.assign rfl) rfl rfl (by kernel_rfl) rfl (by kernel_rfl) (by kernel_rfl) (fun _ _ _ h => h) ?_
                                              refine GA.done (JOk.dead (by kernel_rfl) (JOk.dead (by kernel_rfl) JOk.nil)) (by kernel_rfl) ?_
                                              refine GE.mid ((g15, B99, d99, ns99) : Nat × Option Addr × Nat × List NdM) hgr99 Wkp Wsb
                                            exact GAs.nil
                                          exact GAs.nil
                                        refine GAs.cons rfl ?_ ?_
                                        · -- FFfFFFffFFF.1.3.8 op 8
                                          refine GL.alloc rfl ?_; intro g15
                                          refine GL.nil ?_
                                          refine GE.any ?_
                                          refine GA.branch (rs := [4]) (JOk.dead (by kernel_rfl) (JOk.dead (by kernel_rfl) JOk.nil)) (by kernel_rfl) (by simp) ?_
                                          refine GAs.cons rfl ?_ ?_
                                          · -- FFfFFFffFFF.1.3.8 op 4
                                            refine GL.call rfl rfl (iAddNode_spec _ _ _ _ _ (by first | assumption | exact RdG.imp (by assumption) Wim | exact RdG.of_pick Wpk Wpk) _ _ _ _ Wrd (by assumption) Wom Wom) ?_
                                            rintro _ _ ⟨B99, d99, ns99, hgr99, rfl, rfl⟩
                                            rw [hgr96] at hgr99 ⊢
                                            refine GL.nil ?_
                                            refine GE.any ?_
                                            refine GA.take 5 #[true, true, true, true, true, false, false, false, true, false, false] rfl (by exact Ev.move rfl) rfl rfl (by kernel_rfl) rfl (by kernel_rfl) (by kernel_rfl) (fun _ _ _ h => h) ?_
                                            refine GA.take 6 #[true, true, true, true, true, true, false, true, true, false, false] rfl (by exact Ev.extract rfl rfl) rfl rfl (by kernel_rfl) rfl (by kernel_rfl) (by kernel_rfl) (fun _ _ _ h => h) ?_
                                            refine GA.take 7 #[true, true, true, true, true, true, true, false, true, true, false] rfl (by exact Ev.extract rfl rfl) rfl rfl (by kernel_rfl) rfl (by kernel_rfl) (by kernel_rfl) (fun _ _ _ h => h) ?_
                                            refine GA.branch (rs := [9]) (JOk.dead (by kernel_rfl) (JOk.dead (by kernel_rfl) JOk.nil)) (by kernel_rfl) (by simp) ?_
                                            refine GAs.cons rfl ?_ ?_
                                            · -- FFfFFFffFFF.1.3.8 op 9
                                              refine GL.store_varN rfl rfl rfl Wpk (by rfl) (by rfl) (by rfl) ?_
                                              refine GL.nil ?_
                                              refine GE.any ?_
                                              refine GA.take 10 #[true, true, true, true, true, true, true, true, true, true, false] rfl (by exact Ev.assign rfl) rfl rfl (by kernel_rfl) rfl (by kernel_rfl) (by kernel_rfl) (fun _ _ _ h => h) ?_
                                              refine GA.done (JOk.dead (by kernel_rfl) (JOk.dead (by kernel_rfl) JOk.nil)) (by kernel_rfl) ?_
                                              refine GE.mid ((g15, B99, d99, ns99) : Nat × Option Addr × Nat × List NdM) hgr99 Wkp Wsb
                                            exact GAs.nil
                                          exact GAs.nil
                                        exact GAs.nil
                                      refine GAs.cons rfl ?_ ?_
                                      · -- FFfFFFffFFF.1.8 op 8
                                        refine GL.alloc rfl ?_; intro g15
                                        refine GL.nil ?_
                                        refine GE.any ?_
                                        refine GA.branch (rs := [3]) (JOk.live (by exact Wlba) (JOk.dead (by kernel_rfl) JOk.nil)) (by kernel_rfl) (by simp) ?_
                                        refine GAs.cons rfl ?_ ?_
                                        · -- FFfFFFffFFF.1.8 op 3
                                          refine GL.call rfl rfl (toNode_spec _ _ _ _ _ _ Wrd Wom) ?_
                                          rintro _ _ ⟨B98, rfl, rfl⟩
                                          refine GL.nil ?_
                                          refine GE.any ?_
                                          refine GA.branch (rs := [4]) (JOk.dead (by kernel_rfl) (JOk.dead (by kernel_rfl) JOk.nil)) (by kernel_rfl) (by simp) ?_
                                          refine GAs.cons rfl ?_ ?_
                                          · -- FFfFFFffFFF.1.8 op 4
                                            refine GL.call rfl rfl (iAddNode_spec _ _ _ _ _ (by first | assumption | exact RdG.imp (by assumption) Wim | exact RdG.of_pick Wpk Wpk) _ _ _ _ Wrd (by assumption) Wom Wom) ?_
                                            rintro _ _ ⟨B99, d99, ns99, hgr99, rfl, rfl⟩
                                            rw [hgr96] at hgr99 ⊢
                                            refine GL.nil ?_
                                            refine GE.any ?_
                                            refine GA.take 5 #[true, true, true, true, true, false, false, false, true, false, false] rfl (by exact Ev.move rfl) rfl rfl (by kernel_rfl) rfl (by kernel_rfl) (by kernel_rfl) (fun _ _ _ h => h) ?_
                                            refine GA.take 6 #[true, true, true, true, true, true, false, true, true, false, false] rfl (by exact Ev.extract rfl rfl) rfl rfl (by kernel_rfl) rfl (by kernel_rfl) (by kernel_rfl) (fun _ _ _ h => h) ?_
                                            refine GA.take 7 #[true, true, true, true, true, true, true, false, true, true, false] rfl (by exact Ev.extract rfl rfl) rfl rfl (by kernel_rfl) rfl (by kernel_rfl) (by kernel_rfl) (fun _ _ _ h => h) ?_
                                            refine GA.branch (rs := [9]) (JOk.dead (by kernel_rfl) (JOk.dead (by kernel_rfl) JOk.nil)) (by kernel_rfl) (by simp) ?_
                                            refine GAs.cons rfl ?_ ?_
                                            · -- FFfFFFffFFF.1.8 op 9
                                              refine GL.store_varN rfl rfl rfl Wpk (by rfl) (by rfl) (by rfl) ?_
                                              refine GL.nil ?_
                                              refine GE.any ?_
                                              refine GA.take 10 #[true, true, true, true, true, true, true, true, true, true, false] rfl (by exact Ev.assign rfl) rfl rfl (by kernel_rfl) rfl (by kernel_rfl) (by kernel_rfl) (fun _ _ _ h => h) ?_
                                              refine GA.done (JOk.dead (by kernel_rfl) (JOk.dead (by kernel_rfl) JOk.nil)) (by kernel_rfl) ?_
                                              refine GE.mid ((g15, B99, d99, ns99) : Nat × Option Addr × Nat × List NdM) hgr99 Wkp Wsb
                                            exact GAs.nil
                                          exact GAs.nil
                                        exact GAs.nil
                                      exact GAs.nil
                                    refine GAs.cons rfl ?_ ?_
                                    · -- FFfFFFffFFF.8 op 8
                                      refine GL.alloc rfl ?_; intro g15
                                      refine GL.nil ?_
                                      refine GE.any ?_
                                      refine GA.branch (rs := [1]) (JOk.live (by exact Wlba) (JOk.live (by exact Wlba) JOk.nil)) (by kernel_rfl) (by simp) ?_
                                      refine GAs.cons rfl ?_ ?_
                                      · -- FFfFFFffFFF.8 op 1
                                        refine GL.call rfl rfl (toGraph_spec _ _ _ _ _ (RdL.imp (by assumption) Wim) (by assumption)) ?_
                                        rintro _ _ ⟨B96, ns96, hgr96, rfl, rfl⟩
                                        have hS96 := SizeG.gr (by assumption) hgr96
                                        have hl96 : ns96.length = ms.length := by have := congrArg List.length hgr96; simpa using this
                                        refine GL.nil ?_
                                        refine GE.any ?_
                                        refine GA.branch (rs := [3]) (JOk.live (by exact Wlba) (JOk.dead (by kernel_rfl) JOk.nil)) (by kernel_rfl) (by simp) ?_
                                        refine GAs.cons rfl ?_ ?_
                                        · -- FFfFFFffFFF.8 op 3
                                          refine GL.call rfl rfl (toNode_spec _ _ _ _ _ _ Wrd Wom) ?_
                                          rintro _ _ ⟨B98, rfl, rfl⟩
                                          refine GL.nil ?_
                                          refine GE.any ?_
                                          refine GA.branch (rs := [4]) (JOk.dead (by kernel_rfl) (JOk.dead (by kernel_rfl) JOk.nil)) (by kernel_rfl) (by simp) ?_
                                          refine GAs.cons rfl ?_ ?_
                                          · -- FFfFFFffFFF.8 op 4
                                            refine GL.call rfl rfl (iAddNode_spec _ _ _ _ _ (by first | assumption | exact RdG.imp (by assumption) Wim | exact RdG.of_pick Wpk Wpk) _ _ _ _ Wrd (by assumption) Wom Wom) ?_
                                            rintro _ _ ⟨B99, d99, ns99, hgr99, rfl, rfl⟩
                                            rw [hgr96] at hgr99 ⊢
                                            refine GL.nil ?_
                                            refine GE.any ?_
                                            refine GA.take 5 #[true, true, true, true, true, false, false, false, true, false, false] rfl (by exact Ev.move rfl) rfl rfl (by kernel_rfl) rfl (by kernel_rfl) (by kernel_rfl) (fun _ _ _ h => h) ?_
                                            refine GA.take 6 #[true, true, true, true, true, true, false, true, true, false, false] rfl (by exact Ev.extract rfl rfl) rfl rfl (by kernel_rfl) rfl (by kernel_rfl) (by kernel_rfl) (fun _ _ _ h => h) ?_
                                            refine GA.take 7 #[true, true, true, true, true, true, true, false, true, true, false] rfl (by exact Ev.extract rfl rfl) rfl rfl (by kernel_rfl) rfl (by kernel_rfl) (by kernel_rfl) (fun _ _ _ h => h) ?_
                                            refine GA.branch (rs := [9]) (JOk.dead (by kernel_rfl) (JOk.dead (by kernel_rfl) JOk.nil)) (by kernel_rfl) (by simp) ?_
                                            refine GAs.cons rfl ?_ ?_
                                            · -- FFfFFFffFFF.8 op 9
                                              refine GL.store_varN rfl rfl rfl Wpk (by rfl) (by rfl) (by rfl) ?_
                                              refine GL.nil ?_
                                              refine GE.any ?_
                                              refine GA.take 10 #[true, true, true, true, true, true, true, true, true, true, false] rfl (by exact Ev.assign rfl) rfl rfl (by kernel_rfl) rfl (by kernel_rfl) (by kernel_rfl) (fun _ _ _ h => h) ?_
                                              refine GA.done (JOk.dead (by kernel_rfl) (JOk.dead (by kernel_rfl) JOk.nil)) (by kernel_rfl) ?_
                                              refine GE.mid ((g15, B99, d99, ns99) : Nat × Option Addr × Nat × List NdM) hgr99 Wkp Wsb
                                            exact GAs.nil
                                          exact GAs.nil
                                        exact GAs.nil
                                      exact GAs.nil
                                    exact GAs.nil
                                  ·
                                    rintro ⟨g15, B99, d99, ns99⟩ hgr99
                                    dsimp only at hgr99 ⊢
                                    have hZ99 := sizeG_add hgr99 hS hSx (by omega)
                                    refine GC.seq ?_
                                    refine GC.seq ?_
                                    refine GC.region ?_
                                    refine GL.v Wlba ?_
                                    refine GL.v Wlba ?_
                                    refine GL.callF rfl rfl (eqGraph_spec _ _ _ _ _ (by first | assumption | exact RdG.imp (by assumption) Wim | exact RdG.of_pick Wpk Wpk) _ _ _ (by first | assumption | exact RdG.imp (by assumption) Wim | exact RdG.of_pick Wpk Wpk) (by assumption)) ?_
                                    refine GL.v Wnt ?_
                                    refine GL.v Wmv ?_
                                    refine GL.gs (fun h12 => ?_) (fun h12 => ?_)
                                    · -- FFfFFFffFFFt
                                      exact absurd (hgr99.trans hgr32.symm) h12
                                    · -- FFfFFFffFFFf
                                      refine GL.want rfl rfl ?_
                                      refine GL.v Wmv ?_
                                      refine GL.want rfl rfl ?_
                                      refine GL.v Wmv ?_
                                      refine GL.want rfl rfl ?_
                                      refine GL.v (by exact EvP.r (Ev.neq_bool rfl rfl)) ?_
                                      refine GL.v Wpf ?_
                                      refine GL.nil ?_
                                      refine GE.seq ?_
                                      refine GC.ifs (fun h13 => ?_) (fun h13 => ?_)
                                      · -- FFfFFFffFFFfT
                                        exact absurd rfl h13
                                      · -- FFfFFFffFFFfF
                                        refine GC.skip ?_
                                        refine GE.seq ?_
                                        refine GC.seq ?_
                                        refine GC.region ?_
                                        refine GL.v Wag ?_
                                        refine GL.nil ?_
                                        refine GE.seq ?_
                                        refine GC.seq ?_
                                        refine GC.region ?_
                                        refine GL.v Wlba ?_
                                        refine GL.v Wmv ?_
                                        refine GL.callF rfl rfl (heldGraph_spec _ _ _ _ _ ns42 _ (RdG.of_pick Wpk Wpk) hZ42 rfl (by decide) (by decide)) ?_
                                        refine GL.v Wag ?_
                                        refine GL.nil ?_
                                        refine GE.seq ?_
                                        refine GC.seq ?_
                                        refine GC.seq ?_
                                        refine GC.region ?_
                                        refine GL.v Wmv ?_
                                        refine GL.v Wls ?_
                                        refine GL.nil ?_
                                        refine GE.seq ?_
                                        refine GC.ifs (fun h14 => ?_) (fun h14 => ?_)
                                        · -- FFfFFFffFFFfFT
                                          omega
                                        · -- FFfFFFffFFFfFF
                                          refine GC.skip ?_
                                          refine GE.seq ?_
                                          refine GC.seq ?_
                                          refine GC.seq ?_
                                          refine GC.region ?_
                                          refine GL.v Wmv ?_
                                          refine GL.v Wmv ?_
                                          refine GL.v Wnq ?_
                                          refine GL.nil ?_
                                          refine GE.seq ?_
                                          refine GC.ifs (fun h15 => ?_) (fun h15 => ?_)
                                          · -- FFfFFFffFFFfFFT
                                            exact absurd rfl h15
                                          · -- FFfFFFffFFFfFFF
                                            refine GC.skip ?_
                                            refine GE.seq ?_
                                            refine GC.seq ?_
                                            refine GC.region ?_
                                            refine GL.v Wag ?_
                                            refine GL.nil ?_
                                            refine GE.seq ?_
                                            refine GC.ret ?_
                                            -- returns, path FFfFFFffFFFfFFF
                                            refine GE.ret_tmp (L' := L) (.inl rfl) rfl rfl Wsb ?_
                                            exact ⟨rfl, rfl⟩
                    exact GAs.nil
                  exact GAs.nil
              exact GAs.nil
            exact GAs.nil
theorem fnExactAddNode_calls {H : Type} {enc : TypeId × Value → H} {W : World} {base : Nat} {args : Array Value} {ds : List (DataW H)} {p : List MemPlace} (hval : ∀ (j : Nat) t v, Try.f8.params[j]? = some t → args[j]? = some v → Value.okWide Try.prog W .any base t v)
    (hA : DataW.TrodAll enc Try.prog W 0 (fun _ => true) true Try.f8.params.toList args.toList ds p) : Tr Try.prog 8 args W [] (fun v L' => v = .bool true ∧ L' = []) := by
  rw [Try.params8] at hA hval
  obtain ⟨v0, vs0, d0, ds0, p0, q0, hargs, rfl, rfl, h0, r0⟩ := trodAll_cons hA
  obtain ⟨v1, vs1, d1, ds1, p1, q1, rfl, rfl, rfl, h1, r1⟩ := trodAll_cons r0
  obtain ⟨rfl, rfl, rfl⟩ := trodAll_nil r1
  obtain rfl : args = #[v0, v1] := by cases args; simp_all
  obtain ⟨A, c, ms, rfl, hG⟩ := arg_graph (hval 0 _ v0 rfl rfl) h0
  obtain ⟨km, Am, cm, pm, rfl, hM⟩ := arg_node (hval 1 _ v1 rfl rfl) h1
  exact FnExactAddNode_spec W [] A c ms hG km Am cm pm hM
theorem fnExactAddNode_lifted (os : Os) (started : os.Started) (H : Type) (enc : TypeId × Value → H) :
    ReturnsInHanded {} Try.checked os 8 .any (Ytpkooglnapjcnaa.Rows.fnExactAddNodeSpec.pre6 enc Try.prog Try.f8 Ytpkooglnapjcnaa.Rows.fnExactAddNodeRow.domain false) (Ytpkooglnapjcnaa.Rows.fnExactAddNodeSpec.post enc Try.prog Try.f8 false true false false) := by
  refine returnsInHanded_of_change (C := Try.checked) own started (by kernel_rfl) Try.func8
    (ChangeSpec.witness6 (enc := enc) (C := Try.checked) false ⟨#[], #[.agg #[.slice none 0 0], .agg #[.int .i64 0, .slice none 0 0]], []⟩ 8 (by kernel_rfl) (by kernel_rfl) (by kernel_rfl) (by kernel_rfl)) ?_
  intro W base args ds gs before hval0 hW hcnd _
  have hval : ∀ (j : Nat) t v, Try.f8.params[j]? = some t → args[j]? = some v → Value.okWide Try.prog W .any base t v := hval0
  have hW' := hW
  obtain ⟨p, q, hA0, _⟩ := hW
  have hA : DataW.TrodAll enc Try.prog W 0 (fun _ => true) true Try.f8.params.toList args.toList ds p := hA0
  have hlen : ds.length = Try.f8.params.toList.length := trodAll_len hA
  rw [Try.params8] at hlen
  refine ((fnExactAddNode_calls hval hA).go W (St.start W)).mono ?_
  rintro e W' ⟨v, L', ⟨rfl, rfl⟩, rfl, hs⟩
  exact ⟨_, rfl, law_post kids full (by rw [Try.params8]; decide) hW' rfl (fun hg => by subst hg; match ds, hlen with | [_, _], _ => exact bool_res) (fun hg => by subst hg; match ds, hlen with | [_, _], _ => rfl) (fun hg => by subst hg; match ds, hlen with | [_, _], _ => rfl) hs.below⟩
theorem fnExactAddNode_over : Ytpkooglnapjcnaa.Rows.fnExactAddNodeRow.holds Try.pinned (OpenSpec.ofChange Ytpkooglnapjcnaa.Rows.fnExactAddNodeSpec) :=
  OpenClaim.holds_of_wide 8 Try.f8 rfl rfl rfl rfl rfl rfl rfl ⟨rfl, rfl, rfl, rfl, rfl⟩ rfl rfl rfl rfl rfl (by kernel_rfl) Try.func8 (by kernel_rfl)
    (of_decide_eq_true (by kernel_rfl)) (by unfold Func.isWrapper; first | (rw [if_pos (by decide +kernel)]; kernel_rfl) | (rw [if_neg (by decide +kernel)]; exact ⟨rfl, rfl⟩))
    (fun os started H enc _ => fnExactAddNode_lifted os started H enc)
end SG
namespace Go.Proofs.Ytpkooglnapjcnaa
theorem fnExactAddNode_proved : Rows.FnExactAddNodeSaid := SG.fnExactAddNode_over
end Go.Proofs.Ytpkooglnapjcnaa
#print axioms Go.Proofs.Ytpkooglnapjcnaa.fnExactAddNode_proved
