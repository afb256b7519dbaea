/- Contracts: validFormula of the reference. -/
import Derived.Test.YtpkooglnapjcnaaC2
namespace SG
open Go Go.RowKit Go.Proofs
set_option linter.unusedVariables false
set_option linter.unusedSimpArgs false
set_option maxRecDepth 100000

theorem validFormula_spec (w0 : World) (L : List Asn) (A : Option Addr) (c : Nat) (ps : List Part) (hR : Rd w0 L partE A c ps) (hc : ps.length ≤ 1100000) : Tr Try.prog 113 #[.agg #[.slice A ps.length c]] w0 L (fun v L' => v = .bool (validF ps) ∧ L' = L) := by
  refine Tr.enter (args := [.agg #[.slice A ps.length c]]) Try.func113 Try.ntmps113 rfl rfl ?_
  refine GC.seq ?_
  refine GC.region ?_
  refine GL.box_agg rfl rfl ?_; intro g1
  refine GL.v Wag ?_
  refine GL.nil ?_
  refine GE.seq ?_
  refine GC.seq ?_
  refine GC.region ?_
  refine GL.v Wfa ?_
  refine GL.v Wlb ?_
  refine GL.v Wln ?_
  refine GL.make rfl rfl Wik Wik (by omega) (by omega) rfl ?_; intro g11
  refine GL.v Wag ?_
  refine GL.nil ?_
  refine GE.seq ?_
  refine GC.seq ?_
  refine GC.seq ?_
  refine GC.region ?_
  refine GL.v Wag ?_
  refine GL.nil ?_
  refine GE.seq ?_
  refine GC.block ?_
  -- loop 1: carried slots [4]
  rw [← usedL_nil]
  refine GC.loopK (α := Nat × List Int) (fun x => x.1 ≤ ps.length ∧ x.2 = (ps.take x.1).flatMap belowL ∧ ∀ i' (h : i' < x.1) (h' : i' < ps.length), GoodAt ps[i'] i') (fun x => [(4, .int .i64 x.1)]) [(1, _), (3, _)] (fun x => row intE (some ⟨g11, 0, none⟩) ps.length (usedL ps.length x.2) :: blk g1 49 [.slice A ps.length c] :: L) (fun x => ps.length - x.1) (0, []) Wkp Wsb ⟨Nat.zero_le _, rfl, fun _ h => by omega⟩ ?_
  rintro ⟨i, ks⟩ ⟨hi, hks, hgood⟩
  dsimp only at hi hks hgood ⊢
  refine GC.seq ?_
  refine GC.seq ?_
  refine GC.region ?_
  refine GL.v Wmv ?_
  refine GL.v Wfa ?_
  refine GL.v Wlb ?_
  refine GL.v Wln ?_
  refine GL.v Wls ?_
  refine GL.nil ?_
  refine GE.seq ?_
  refine GC.ifs (fun h1 => ?_) (fun h1 => ?_)
  · -- T
    have hlt : i < ps.length := by omega
    have hkl : ks.length ≤ 3300000 := by have := flatMap_below_length (ps.take i); rw [← hks] at this; simp only [List.length_take] at this; omega
    refine GC.skip ?_
    refine GE.seq ?_
    refine GC.seq ?_
    refine GC.block ?_
    refine GC.seq ?_
    refine GC.seq ?_
    refine GC.region ?_
    refine GL.v Wfa ?_
    refine GL.v Wlb ?_
    refine GL.v Wmv ?_
    refine GL.v Wix ?_
    refine GL.v Wle ?_
    refine GL.v Wmv ?_
    refine GL.callF rfl rfl (goodPart_spec _ _ _ _ (by omega) (by omega)) ?_
    refine GL.v Wnt ?_
    refine GL.nil ?_
    refine GE.seq ?_
    refine GC.ifs (fun h2 => ?_) (fun h2 => ?_)
    · -- TT
      refine GC.seq ?_
      refine GC.region ?_
      refine GL.v Wag ?_
      refine GL.nil ?_
      refine GE.seq ?_
      refine GC.ret ?_
      refine GE.seq_ret ?_
      refine GE.block_ret ?_
      refine GE.seq_ret ?_
      refine GE.loop_ret ?_
      refine GE.block_ret ?_
      refine GE.seq_ret ?_
      -- returns, path TT
      refine GE.ret_tmp (L' := L) (.inl rfl) rfl rfl Wsb ?_
      exact ⟨by rw [validF_not.2 (fun hv => by have := goodB_iff.2 (hv.2.2.1 i hlt); simp_all)], rfl⟩
    · -- TF
      have hg := goodB_iff.1 h2
      refine GC.skip ?_
      refine GE.seq ?_
      refine GC.seq ?_
      refine GC.region ?_
      refine GL.v Wfa ?_
      refine GL.v Wlb ?_
      refine GL.v Wmv ?_
      refine GL.v Wix ?_
      refine GL.v Wle ?_
      refine GL.call rfl rfl (sbelow_spec _ _ _) ?_; rintro _ _ ⟨A32, c32, rfl, rfl⟩
      refine GL.v Wag ?_
      refine GL.nil ?_
      refine GE.seq ?_
      refine GC.seq ?_
      refine GC.region ?_
      refine GL.v Wag ?_
      refine GL.nil ?_
      refine GE.seq ?_
      refine GC.block ?_
      -- loop 2: carried slots [6]
      refine GC.loopK (α := Nat × List Int) (fun x => x.1 ≤ (belowL ps[i]).length ∧ x.2 = ks ++ (belowL ps[i]).take x.1) (fun x => [(6, .int .i64 x.1)]) [(1, _), (3, _), (4, _), (5, _)] (fun x => row intE (some ⟨g11, 0, none⟩) ps.length (usedL ps.length x.2) :: row intE A32 c32 (belowL ps[i]) :: blk g1 49 [.slice A ps.length c] :: L) (fun x => (belowL ps[i]).length - x.1) (0, ks) Wkp Wsb ⟨Nat.zero_le _, by simp⟩ ?_
      rintro ⟨j, ls⟩ ⟨hj, hls⟩
      dsimp only at hj hls ⊢
      refine GC.seq ?_
      refine GC.seq ?_
      refine GC.region ?_
      refine GL.v Wmv ?_
      refine GL.v Wmv ?_
      refine GL.v Wln ?_
      refine GL.v Wls ?_
      refine GL.nil ?_
      refine GE.seq ?_
      refine GC.ifs (fun h3 => ?_) (fun h3 => ?_)
      · -- TFT
        have hjl : j < (belowL ps[i]).length := by omega
        have hb3 := belowL_short ps[i]
        have hll : ls.length ≤ 3300003 := by rw [hls]; simp only [List.length_append, List.length_take]; omega
        have hk := hg.2 _ (List.getElem_mem hjl)
        have hub := usedL_bound ps.length ls ((belowL ps[i])[j]).toNat (by simp; omega)
        refine GC.skip ?_
        refine GE.seq ?_
        refine GC.seq ?_
        refine GC.block ?_
        refine GC.region_tail 14 mixed (by kernel_rfl) ?_
        refine GS.val (by exact EvP.r (Ev.move rfl)) rfl rfl ?_
        refine GS.val (by exact EvP.r (Ev.move rfl)) rfl rfl ?_
        refine GS.val (by exact EvP.r (Ev.move rfl)) rfl rfl ?_
        refine GS.val (by exact Wix) rfl rfl ?_
        refine GS.val (by exact Wle) rfl rfl ?_
        refine GS.val (by exact EvP.r (Ev.move rfl)) rfl rfl ?_
        refine GS.val (by exact EvP.r (Ev.move rfl)) rfl rfl ?_
        refine GS.val (by exact EvP.r (Ev.move rfl)) rfl rfl ?_
        refine GS.val (by exact Wix) rfl rfl ?_
        refine GS.val (by exact Wle) rfl rfl ?_
        refine GS.val (by exact Wix) rfl rfl ?_
        refine GS.val (by exact Wle) rfl rfl ?_
        refine GS.val (by exact EvP.r (Ev.add rfl rfl (by omega))) rfl rfl ?_
        refine GS.val (by exact Wix) rfl rfl ?_
        refine GS.nil ?_
        refine GL.store_el rfl rfl Wpk rfl rfl rfl (by first | omega | (simp; done) | (simp; omega)) ?_
        refine GL.nil ?_
        refine GE.block ?_
        refine GE.seq ?_
        refine GC.region ?_
        refine GL.v Wmv ?_
        refine GL.v Wad ?_
        refine GL.v Wag ?_
        refine GL.nil ?_
        -- round of loop 2, path TFT
        rw [usedL_snocI _ _ _ (by omega) _]
        refine GE.round (j + 1, ls ++ [(belowL ps[i])[j]]) ⟨by dsimp only; omega, ?_⟩ (by dsimp only; omega) Wkp Wsb
        dsimp only; rw [List.take_succ_eq_append_getElem hjl, hls]; simp
      · -- TFF
        have hje : j = (belowL ps[i]).length := by omega
        subst hje
        rw [List.take_length] at hls
        refine GC.exit ?_
        refine GE.seq_exit ?_
        refine GE.loop_exit ?_
        refine GE.block_exit ?_
        refine GE.block ?_
        refine GE.seq ?_
        refine GC.region ?_
        refine GL.v Wmv ?_
        refine GL.v Wad ?_
        refine GL.v Wag ?_
        refine GL.nil ?_
        -- round of loop 1, path TFF
        refine GE.round (i + 1, ls) ⟨by dsimp only; omega, ?_, ?_⟩ (by dsimp only; omega) Wkp Wsb
        · dsimp only; rw [take_succ_flatMap _ _ _ hlt, hls, hks]
        · dsimp only
          intro i' h h'
          by_cases e : i' = i
          · subst e; exact hg
          · exact hgood i' (by omega) h'
  · -- F
    have hie : i = ps.length := by omega
    subst hie
    rw [List.take_length] at hks
    subst hks
    refine GC.exit ?_
    refine GE.seq_exit ?_
    refine GE.loop_exit ?_
    refine GE.block_exit ?_
    refine GE.seq ?_
    refine GC.seq ?_
    refine GC.seq ?_
    refine GC.region ?_
    refine GL.v Wag ?_
    refine GL.nil ?_
    refine GE.seq ?_
    refine GC.block ?_
    -- loop 3: carried slots [7]
    refine GC.loopK (α := Nat) (fun j => j ≤ ps.length ∧ ∀ j' : Nat, j' < j → j' + 1 < ps.length → (ps.flatMap belowL).count (j' : Int) = 1) (fun j => [(7, .int .i64 j)]) [(1, _), (3, _)] (fun j => row intE (some ⟨g11, 0, none⟩) ps.length (usedL ps.length (ps.flatMap belowL)) :: blk g1 49 [.slice A ps.length c] :: L) (fun j => ps.length - j) 0 Wkp Wsb ⟨Nat.zero_le _, fun _ h => by omega⟩ ?_
    rintro j ⟨hj, hone⟩
    refine GC.seq ?_
    refine GC.seq ?_
    refine GC.region ?_
    refine GL.v Wmv ?_
    refine GL.v Wad ?_
    refine GL.v Wmv ?_
    refine GL.v Wln ?_
    refine GL.v Wls ?_
    refine GL.nil ?_
    refine GE.seq ?_
    refine GC.ifs (fun h2 => ?_) (fun h2 => ?_)
    · -- FT
      have hjl : j + 1 < ps.length := by omega
      have hg := usedL_get ps.length (ps.flatMap belowL) j (by simp; omega)
      refine GC.skip ?_
      refine GE.seq ?_
      refine GC.seq ?_
      refine GC.block ?_
      refine GC.seq ?_
      refine GC.region ?_
      refine GL.v Wmv ?_
      refine GL.v Wmv ?_
      refine GL.v Wix ?_
      refine GL.v Wle ?_
      refine GL.v Wnq ?_
      refine GL.nil ?_
      refine GE.seq ?_
      refine GC.ifs (fun h3 => ?_) (fun h3 => ?_)
      · -- FTT
        refine GC.seq ?_
        refine GC.region ?_
        refine GL.v Wag ?_
        refine GL.nil ?_
        refine GE.seq ?_
        refine GC.ret ?_
        refine GE.block_ret ?_
        refine GE.seq_ret ?_
        refine GE.loop_ret ?_
        refine GE.block_ret ?_
        refine GE.seq_ret ?_
        -- returns, path FTT
        refine GE.ret_tmp (L' := L) (.inl rfl) rfl rfl Wsb ?_
        exact ⟨by rw [validF_not.2 (fun hv => by have := hv.2.2.2 j (by omega); rw [hg] at h3; omega)], rfl⟩
      · -- FTF
        refine GC.skip ?_
        refine GE.block ?_
        refine GE.seq ?_
        refine GC.region ?_
        refine GL.v Wmv ?_
        refine GL.v Wad ?_
        refine GL.v Wag ?_
        refine GL.nil ?_
        -- round of loop 3, path FTF
        refine GE.round (j + 1) ⟨by omega, fun j' hj' hj2 => ?_⟩ (by omega) Wkp Wsb
        by_cases e : j' = j
        · subst e; rw [hg] at h3; omega
        · exact hone j' (by omega) hj2
    · -- FF
      refine GC.exit ?_
      refine GE.seq_exit ?_
      refine GE.loop_exit ?_
      refine GE.block_exit ?_
      refine GE.seq ?_
      refine GC.seq ?_
      refine GC.region ?_
      refine GL.v Wfa ?_
      refine GL.v Wlb ?_
      refine GL.v Wln ?_
      refine GL.callF rfl rfl (inRange_spec _ _ _ _ _) ?_
      refine GL.v Wag ?_
      refine GL.nil ?_
      refine GE.seq ?_
      refine GC.ret ?_
      -- returns, path FF
      refine GE.ret_tmp (L' := L) (.inl rfl) rfl rfl Wsb ?_
      refine ⟨?_, rfl⟩
      cases hb : inB (ps.length : Int) 1 12 with
      | false => rw [validF_not.2 (fun hv => inB_not.1 hb ⟨by have := hv.1; omega, by have := hv.2.1; omega⟩)]
      | true =>
        have := inB_iff.1 hb
        rw [validF_iff.2 ⟨by omega, by omega, fun i' h' => hgood i' h' h', fun j' hj' => hone j' (by omega) hj'⟩]
end SG
