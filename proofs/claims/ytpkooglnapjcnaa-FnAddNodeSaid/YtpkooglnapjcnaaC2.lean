/- Contracts: ValidFormula of the program. -/
import Derived.Test.YtpkooglnapjcnaaC1
namespace SG
open Go Go.RowKit Go.Proofs
set_option linter.unusedVariables false
set_option linter.unusedSimpArgs false
set_option maxRecDepth 100000

theorem ValidFormula_spec (w0 : World) (L : List Asn) (A : Option Addr) (c : Nat) (ps : List Part) (hR : Rd w0 L partE A c ps) : Tr Try.prog 88 #[.agg #[.slice A ps.length c]] w0 L (fun v L' => v = .bool (validF ps) ∧ L' = L) := by
  refine Tr.enter (args := [.agg #[.slice A ps.length c]]) Try.func88 Try.ntmps88 rfl rfl ?_
  refine GC.seq ?_
  refine GC.region ?_
  refine GL.box_agg rfl rfl ?_; intro g1
  refine GL.v Wag ?_
  refine GL.nil ?_
  refine GE.seq ?_
  refine GC.seq ?_
  refine GC.seq ?_
  refine GC.region ?_
  refine GL.v Wfa ?_
  refine GL.v Wlb ?_
  refine GL.v Wln ?_
  refine GL.callF rfl rfl (in_spec _ _ _ _ _) ?_
  refine GL.v Wnt ?_
  refine GL.nil ?_
  refine GE.seq ?_
  refine GC.ifs (fun h1 => ?_) (fun h1 => ?_)
  · -- T
    refine GC.seq ?_
    refine GC.region ?_
    refine GL.v Wag ?_
    refine GL.nil ?_
    refine GE.seq ?_
    refine GC.ret ?_
    refine GE.seq_ret ?_
    -- returns, path T
    refine GE.ret_tmp (L' := L) (.inl rfl) rfl rfl Wsb ?_
    exact ⟨by rw [validF_not.2 (fun hv => inB_not.1 h1 ⟨by have := hv.1; omega, by have := hv.2.1; omega⟩)], rfl⟩
  · -- F
    have hl := inB_iff.1 h1
    refine GC.skip ?_
    refine GE.seq ?_
    refine GC.seq ?_
    refine GC.region ?_
    refine GL.v Wfa ?_
    refine GL.v Wlb ?_
    refine GL.v Wln ?_
    refine GL.make rfl rfl Wik Wik (by omega) (by omega) rfl ?_; intro g18
    refine GL.v Wag ?_
    refine GL.nil ?_
    refine GE.seq ?_
    refine GC.seq ?_
    refine GC.seq ?_
    refine GC.region ?_
    refine GL.v Wfa ?_
    refine GL.v Wlb ?_
    refine GL.v Wln ?_
    refine GL.v Wmv ?_
    refine GL.nil ?_
    refine GE.seq ?_
    refine GC.block ?_
    -- loop 1: carried slots [22]
    rw [← usedL_nil]
    refine GC.loopK (α := Nat × List Int) (fun x => x.1 ≤ ps.length ∧ x.2 = (ps.take x.1).flatMap belowL ∧ ∀ i' (h : i' < x.1) (h' : i' < ps.length), GoodAt ps[i'] i') (fun x => [(22, .int .i64 x.1)]) [(3, _), (20, _), (21, _)] (fun x => row intE (some ⟨g18, 0, none⟩) ps.length (usedL ps.length x.2) :: L) (fun x => ps.length - x.1) (0, []) Wkp Wsb ⟨Nat.zero_le _, rfl, fun _ h => by omega⟩ ?_
    rintro ⟨i, ks⟩ ⟨hi, hks, hgood⟩
    dsimp only at hi hks hgood ⊢
    refine GC.seq ?_
    refine GC.region ?_
    refine GL.v Wls ?_
    refine GL.nil ?_
    refine GE.seq ?_
    refine GC.seq ?_
    refine GC.ifs (fun h2 => ?_) (fun h2 => ?_)
    · -- FT
      have hlt : i < ps.length := by omega
      have hkl : ks.length ≤ 36 := by have := flatMap_below_length (ps.take i); rw [← hks] at this; simp only [List.length_take] at this; omega
      refine GC.skip ?_
      refine GE.seq ?_
      refine GC.seq ?_
      refine GC.block ?_
      refine GC.seq ?_
      refine GC.region ?_
      refine GL.v Wmv ?_
      refine GL.v Wix ?_
      refine GL.v Wle ?_
      refine GL.alloc rfl ?_; intro g5
      refine GL.v Wag ?_
      refine GL.store_varN rfl rfl rfl Wpk (by rfl) (by rfl) (by rfl) ?_
      refine GL.nil ?_
      refine GE.seq ?_
      refine GC.seq ?_
      refine GC.seq ?_
      refine GC.region ?_
      refine GL.v Wlba ?_
      refine GL.callF rfl rfl (alone_spec _ _ _) ?_
      refine GL.v Wnt ?_
      refine GL.nil ?_
      refine GE.seq ?_
      refine GC.ifs (fun h3 => ?_) (fun h3 => ?_)
      · -- FTT
        refine GC.seq ?_
        refine GC.region ?_
        refine GL.v Wag ?_
        refine GL.nil ?_
        refine GE.seq ?_
        refine GC.ret ?_
        refine GE.seq_ret ?_
        refine GE.block_ret ?_
        refine GE.seq_ret ?_
        refine GE.loop_ret ?_
        refine GE.block_ret ?_
        refine GE.seq_ret ?_
        -- returns, path FTT
        refine GE.ret_tmp (L' := L) (.inl rfl) rfl rfl Wsb ?_
        exact ⟨by rw [validF_not.2 (fun hv => by have := (hv.2.2.1 i hlt).1; simp_all)], rfl⟩
      · -- FTF
        refine GC.skip ?_
        refine GE.seq ?_
        refine GC.seq ?_
        refine GC.region ?_
        refine GL.v Wlba ?_
        refine GL.call rfl rfl (below_spec _ _ _) ?_; rintro _ _ ⟨A31, c31, rfl, rfl⟩
        refine GL.v Wln ?_
        refine GL.v Wmv ?_
        refine GL.nil ?_
        refine GE.seq ?_
        refine GC.block ?_
        -- loop 2: carried slots [33]
        refine GC.loopK (α := Nat × List Int) (fun x => x.1 ≤ (belowL ps[i]).length ∧ x.2 = ks ++ (belowL ps[i]).take x.1 ∧ ∀ k ∈ (belowL ps[i]).take x.1, 0 ≤ k ∧ k < i) (fun x => [(33, .int .i64 x.1)]) [(3, _), (4, _), (20, _), (21, _), (22, _), (31, _), (32, _)] (fun x => row intE (some ⟨g18, 0, none⟩) ps.length (usedL ps.length x.2) :: row intE A31 c31 (belowL ps[i]) :: L) (fun x => (belowL ps[i]).length - x.1) (0, ks) Wkp Wsb ⟨Nat.zero_le _, by simp, by simp⟩ ?_
        rintro ⟨j, ls⟩ ⟨hj, hls, hall⟩
        dsimp only at hj hls hall ⊢
        refine GC.seq ?_
        refine GC.region ?_
        refine GL.v Wls ?_
        refine GL.nil ?_
        refine GE.seq ?_
        refine GC.seq ?_
        refine GC.ifs (fun h4 => ?_) (fun h4 => ?_)
        · -- FTFT
          have hjl : j < (belowL ps[i]).length := by omega
          have hb3 := belowL_short ps[i]
          have hll : ls.length ≤ 39 := by rw [hls]; simp only [List.length_append, List.length_take]; omega
          refine GC.skip ?_
          refine GE.seq ?_
          refine GC.seq ?_
          refine GC.block ?_
          refine GC.seq ?_
          refine GC.region ?_
          refine GL.v Wix ?_
          refine GL.v Wle ?_
          refine GL.v Wag ?_
          refine GL.nil ?_
          refine GE.seq ?_
          refine GC.seq ?_
          refine GC.seq ?_
          refine GC.region ?_
          refine GL.v Wmv ?_
          refine GL.v Wmv ?_
          refine GL.v Wsu ?_
          refine GL.callF rfl rfl (in_spec _ _ _ _ _) ?_
          refine GL.v Wnt ?_
          refine GL.nil ?_
          refine GE.seq ?_
          refine GC.ifs (fun h5 => ?_) (fun h5 => ?_)
          · -- FTFTT
            refine GC.seq ?_
            refine GC.region ?_
            refine GL.v Wag ?_
            refine GL.nil ?_
            refine GE.seq ?_
            refine GC.ret ?_
            refine GE.seq_ret ?_
            refine GE.block_ret ?_
            refine GE.seq_ret ?_
            refine GE.loop_ret ?_
            refine GE.block_ret ?_
            refine GE.block_ret ?_
            refine GE.seq_ret ?_
            refine GE.loop_ret ?_
            refine GE.block_ret ?_
            refine GE.seq_ret ?_
            -- returns, path FTFTT
            refine GE.ret_tmp (L' := L) (.inl rfl) rfl rfl Wsb ?_
            exact ⟨by rw [validF_not.2 (fun hv => inB_not.1 h5 (by have := (hv.2.2.1 i hlt).2 _ (List.getElem_mem hjl); omega))], rfl⟩
          · -- FTFTF
            have hk := inB_iff.1 h5
            have hub := usedL_bound ps.length ls ((belowL ps[i])[j]).toNat (by simp; omega)
            refine GC.skip ?_
            refine GE.seq ?_
            refine GC.region ?_
            refine GL.v Wmv ?_
            refine GL.v Wmv ?_
            refine GL.v Wix ?_
            refine GL.v Wle ?_
            refine GL.v Wad ?_
            refine GL.v Wix ?_
            refine GL.store_el rfl rfl Wpk rfl rfl rfl (by first | omega | (simp; done) | (simp; omega)) ?_
            refine GL.nil ?_
            refine GE.block ?_
            refine GE.seq ?_
            refine GC.region ?_
            refine GL.v Wad ?_
            refine GL.v Wmv ?_
            refine GL.nil ?_
            -- round of loop 2, path FTFTF
            rw [usedL_snocI _ _ _ (by omega) _]
            refine GE.round (j + 1, ls ++ [(belowL ps[i])[j]]) ⟨by dsimp only; omega, ?_, ?_⟩ (by dsimp only; omega) Wkp Wsb
            · dsimp only; rw [List.take_succ_eq_append_getElem hjl, hls]; simp
            · dsimp only; rw [List.take_succ_eq_append_getElem hjl]
              intro k hk'
              rcases List.mem_append.1 hk' with hk' | hk'
              · exact hall k hk'
              · simp only [List.mem_singleton] at hk'; subst hk'; omega
        · -- FTFF
          have hje : j = (belowL ps[i]).length := by omega
          subst hje
          rw [List.take_length] at hls hall
          refine GC.exit ?_
          refine GE.seq_exit ?_
          refine GE.loop_exit ?_
          refine GE.block_exit ?_
          refine GE.block ?_
          refine GE.seq ?_
          refine GC.region ?_
          refine GL.v Wad ?_
          refine GL.v Wmv ?_
          refine GL.nil ?_
          -- round of loop 1, path FTFF
          refine GE.round (i + 1, ls) ⟨by dsimp only; omega, ?_, ?_⟩ (by dsimp only; omega) Wkp Wsb
          · dsimp only; rw [take_succ_flatMap _ _ _ hlt, hls, hks]
          · dsimp only
            intro i' h h'
            by_cases e : i' = i
            · subst e; exact ⟨h3, hall⟩
            · exact hgood i' (by omega) h'
    · -- FF
      have hie : i = ps.length := by omega
      subst hie
      rw [List.take_length] at hks
      subst hks
      refine GC.exit ?_
      refine GE.seq_exit ?_
      refine GE.loop_exit ?_
      refine GE.block_exit ?_
      refine GE.seq ?_
      refine GC.seq ?_
      refine GC.seq ?_
      refine GC.region ?_
      refine GL.v Wmv ?_
      refine GL.v Wmv ?_
      refine GL.v Wln ?_
      refine GL.v Wsu ?_
      refine GL.v (by exact EvP.r (Ev.cut_to rfl rfl Wik (by omega))) ?_
      refine GL.v Wln ?_
      refine GL.v Wmv ?_
      refine GL.nil ?_
      refine GE.seq ?_
      refine GC.block ?_
      -- loop 3: carried slots [56]
      refine GC.loopK (α := Nat) (fun j => j ≤ ps.length - 1 ∧ ∀ j' : Nat, j' < j → (ps.flatMap belowL).count (j' : Int) = 1) (fun j => [(56, .int .i64 j)]) [(54, _), (55, _)] (fun j => row intE (some ⟨g18, 0, none⟩) ps.length (usedL ps.length (ps.flatMap belowL)) :: L) (fun j => ps.length - j) 0 Wkp Wsb ⟨Nat.zero_le _, fun _ h => by omega⟩ ?_
      rintro j ⟨hj, hone⟩
      refine GC.seq ?_
      refine GC.region ?_
      refine GL.v Wls ?_
      refine GL.nil ?_
      refine GE.seq ?_
      refine GC.seq ?_
      refine GC.ifs (fun h3 => ?_) (fun h3 => ?_)
      · -- FFT
        have hjl : j < ps.length - 1 := by omega
        have hg := usedL_get ps.length (ps.flatMap belowL) j (by simp; omega)
        refine GC.skip ?_
        refine GE.seq ?_
        refine GC.seq ?_
        refine GC.block ?_
        refine GC.seq ?_
        refine GC.region ?_
        refine GL.v Wix ?_
        refine GL.v Wle ?_
        refine GL.v Wag ?_
        refine GL.nil ?_
        refine GE.seq ?_
        refine GC.seq ?_
        refine GC.region ?_
        refine GL.v Wmv ?_
        refine GL.v Wnq ?_
        refine GL.nil ?_
        refine GE.seq ?_
        refine GC.ifs (fun h4 => ?_) (fun h4 => ?_)
        · -- FFTT
          refine GC.seq ?_
          refine GC.region ?_
          refine GL.v Wag ?_
          refine GL.nil ?_
          refine GE.seq ?_
          refine GC.ret ?_
          refine GE.block_ret ?_
          refine GE.seq_ret ?_
          refine GE.loop_ret ?_
          refine GE.block_ret ?_
          refine GE.seq_ret ?_
          -- returns, path FFTT
          refine GE.ret_tmp (L' := L) (.inl rfl) rfl rfl Wsb ?_
          exact ⟨by rw [validF_not.2 (fun hv => by have := hv.2.2.2 j (by omega); rw [hg] at h4; omega)], rfl⟩
        · -- FFTF
          refine GC.skip ?_
          refine GE.block ?_
          refine GE.seq ?_
          refine GC.region ?_
          refine GL.v Wad ?_
          refine GL.v Wmv ?_
          refine GL.nil ?_
          -- round of loop 3, path FFTF
          refine GE.round (j + 1) ⟨by omega, fun j' hj' => ?_⟩ (by omega) Wkp Wsb
          by_cases e : j' = j
          · subst e; rw [hg] at h4; omega
          · exact hone j' (by omega)
      · -- FFF
        refine GC.exit ?_
        refine GE.seq_exit ?_
        refine GE.loop_exit ?_
        refine GE.block_exit ?_
        refine GE.seq ?_
        refine GC.seq ?_
        refine GC.region ?_
        refine GL.v Wag ?_
        refine GL.nil ?_
        refine GE.seq ?_
        refine GC.ret ?_
        -- returns, path FFF
        refine GE.ret_tmp (L' := L) (.inl rfl) rfl rfl Wsb ?_
        exact ⟨by rw [validF_iff.2 ⟨by omega, by omega, fun i' h' => hgood i' h' h', fun j' hj' => hone j' (by omega)⟩], rfl⟩
end SG
