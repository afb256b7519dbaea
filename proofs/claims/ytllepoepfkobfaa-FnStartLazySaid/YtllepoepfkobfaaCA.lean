/- Contracts: the small functions on parts. -/
import Derived.Test.YtllepoepfkobfaaTy
namespace SG
open Go Go.RowKit Go.Proofs
set_option linter.unusedVariables false
set_option linter.unusedSimpArgs false
set_option maxRecDepth 100000

theorem in_spec (w0 : World) (L : List Asn) (n lo hi : Int) : Tr Try.prog 53 #[.int .i64 n, .int .i64 lo, .int .i64 hi] w0 L (fun v L' => v = .bool (inB n lo hi) ∧ L' = L) := by
  refine Tr.enter (args := [.int .i64 n, .int .i64 lo, .int .i64 hi]) Try.func53 Try.ntmps53 rfl rfl ?_
  refine GC.seq ?_
  refine GC.region ?_
  refine GL.v Wag ?_
  refine GL.nil ?_
  refine GE.seq ?_
  refine GC.seq ?_
  refine GC.region ?_
  refine GL.v Wmv ?_
  refine GL.v Wmv ?_
  refine GL.v Wgq ?_
  refine GL.v Wmv ?_
  refine GL.gs (fun h1 => ?_) (fun h1 => ?_)
  · -- t
    refine GL.want rfl rfl ?_
    refine GL.v Wmv ?_
    refine GL.want rfl rfl ?_
    refine GL.v Wmv ?_
    refine GL.want rfl rfl ?_
    refine GL.v Wlq ?_
    refine GL.v Wpt ?_
    refine GL.v Wag ?_
    refine GL.nil ?_
    refine GE.seq ?_
    refine GC.ret ?_
    -- returns, path t
    refine GE.ret_tmp (L' := L) (.inl rfl) rfl rfl Wsb ?_
    exact ⟨by simp [inB, *], rfl⟩
  · -- f
    refine GL.unwant rfl rfl rfl rfl ?_
    refine GL.unwant rfl rfl rfl rfl ?_
    refine GL.unwant rfl rfl rfl rfl ?_
    refine GL.v Wpf ?_
    refine GL.v Wag ?_
    refine GL.nil ?_
    refine GE.seq ?_
    refine GC.ret ?_
    -- returns, path f
    refine GE.ret_tmp (L' := L) (.inl rfl) rfl rfl Wsb ?_
    exact ⟨by simp [inB, *], rfl⟩
theorem inRange_spec (w0 : World) (L : List Asn) (n lo hi : Int) : Tr Try.prog 90 #[.int .i64 n, .int .i64 lo, .int .i64 hi] w0 L (fun v L' => v = .bool (inB n lo hi) ∧ L' = L) := by
  refine Tr.enter (args := [.int .i64 n, .int .i64 lo, .int .i64 hi]) Try.func90 Try.ntmps90 rfl rfl ?_
  refine GC.seq ?_
  refine GC.region ?_
  refine GL.v Wag ?_
  refine GL.nil ?_
  refine GE.seq ?_
  refine GC.seq ?_
  refine GC.region ?_
  refine GL.v Wmv ?_
  refine GL.v Wmv ?_
  refine GL.v Wlq ?_
  refine GL.v Wmv ?_
  refine GL.gs (fun h1 => ?_) (fun h1 => ?_)
  · -- t
    refine GL.want rfl rfl ?_
    refine GL.v Wmv ?_
    refine GL.want rfl rfl ?_
    refine GL.v Wmv ?_
    refine GL.want rfl rfl ?_
    refine GL.v Wlq ?_
    refine GL.v Wpt ?_
    refine GL.v Wag ?_
    refine GL.nil ?_
    refine GE.seq ?_
    refine GC.ret ?_
    -- returns, path t
    refine GE.ret_tmp (L' := L) (.inl rfl) rfl rfl Wsb ?_
    exact ⟨by simp [inB, *], rfl⟩
  · -- f
    refine GL.unwant rfl rfl rfl rfl ?_
    refine GL.unwant rfl rfl rfl rfl ?_
    refine GL.unwant rfl rfl rfl rfl ?_
    refine GL.v Wpf ?_
    refine GL.v Wag ?_
    refine GL.nil ?_
    refine GE.seq ?_
    refine GC.ret ?_
    -- returns, path f
    refine GE.ret_tmp (L' := L) (.inl rfl) rfl rfl Wsb ?_
    exact ⟨by simp [inB, *], rfl⟩
theorem alone_spec (w0 : World) (L : List Asn) (p : Part) : Tr Try.prog 110 #[p.val] w0 L (fun v L' => v = .bool (aloneB p) ∧ L' = L) := by
  refine Tr.enter (args := [p.val]) Try.func110 Try.ntmps110 rfl rfl ?_
  refine GC.seq ?_
  refine GC.region ?_
  refine GL.box_agg rfl rfl ?_; intro g1
  refine GL.v Wag ?_
  refine GL.nil ?_
  refine GE.seq ?_
  refine GC.seq ?_
  refine GC.block ?_
  refine GC.seq ?_
  refine GC.region ?_
  refine GL.v Wfa ?_
  refine GL.v Wlb ?_
  refine GL.v Weq ?_
  refine GL.v Wag ?_
  refine GL.nil ?_
  refine GE.seq ?_
  refine GC.ifs (fun h1 => ?_) (fun h1 => ?_)
  · -- T
    refine GC.seq ?_
    refine GC.region ?_
    refine GL.v Wfa ?_
    refine GL.v Wlb ?_
    refine GL.callF rfl rfl (in_spec _ _ _ _ _) ?_
    refine GL.v Wmv ?_
    refine GL.gs (fun h2 => ?_) (fun h2 => ?_)
    · -- Tt
      refine GL.want rfl rfl ?_
      refine GL.v Wfa ?_
      refine GL.want rfl rfl ?_
      refine GL.v Wlb ?_
      refine GL.want rfl rfl ?_
      refine GL.v Weq ?_
      refine GL.v Wpt ?_
      refine GL.v Wmv ?_
      refine GL.gs (fun h3 => ?_) (fun h3 => ?_)
      · -- Ttt
        refine GL.want rfl rfl ?_
        refine GL.v Wfa ?_
        refine GL.want rfl rfl ?_
        refine GL.v Wlb ?_
        refine GL.want rfl rfl ?_
        refine GL.v Weq ?_
        refine GL.v Wpt ?_
        refine GL.v Wmv ?_
        refine GL.gs (fun h4 => ?_) (fun h4 => ?_)
        · -- Tttt
          refine GL.want rfl rfl ?_
          refine GL.v Wfa ?_
          refine GL.want rfl rfl ?_
          refine GL.v Wlb ?_
          refine GL.want rfl rfl ?_
          refine GL.v Weq ?_
          refine GL.v Wpt ?_
          refine GL.v Wag ?_
          refine GL.nil ?_
          refine GE.seq ?_
          refine GC.ret ?_
          refine GE.block_ret ?_
          refine GE.seq_ret ?_
          -- returns, path Tttt
          refine GE.ret_tmp (L' := L) (.inl rfl) rfl rfl Wsb ?_
          exact ⟨by simp [aloneB, *], rfl⟩
        · -- Tttf
          refine GL.unwant rfl rfl rfl rfl ?_
          refine GL.unwant rfl rfl rfl rfl ?_
          refine GL.unwant rfl rfl rfl rfl ?_
          refine GL.v Wpf ?_
          refine GL.v Wag ?_
          refine GL.nil ?_
          refine GE.seq ?_
          refine GC.ret ?_
          refine GE.block_ret ?_
          refine GE.seq_ret ?_
          -- returns, path Tttf
          refine GE.ret_tmp (L' := L) (.inl rfl) rfl rfl Wsb ?_
          exact ⟨by simp [aloneB, *], rfl⟩
      · -- Ttf
        refine GL.unwant rfl rfl rfl rfl ?_
        refine GL.unwant rfl rfl rfl rfl ?_
        refine GL.unwant rfl rfl rfl rfl ?_
        refine GL.v Wpf ?_
        refine GL.v Wmv ?_
        refine GL.unwant rfl rfl rfl rfl ?_
        refine GL.unwant rfl rfl rfl rfl ?_
        refine GL.unwant rfl rfl rfl rfl ?_
        refine GL.v Wpf ?_
        refine GL.v Wag ?_
        refine GL.nil ?_
        refine GE.seq ?_
        refine GC.ret ?_
        refine GE.block_ret ?_
        refine GE.seq_ret ?_
        -- returns, path Ttf
        refine GE.ret_tmp (L' := L) (.inl rfl) rfl rfl Wsb ?_
        exact ⟨by simp [aloneB, *], rfl⟩
    · -- Tf
      refine GL.unwant rfl rfl rfl rfl ?_
      refine GL.unwant rfl rfl rfl rfl ?_
      refine GL.unwant rfl rfl rfl rfl ?_
      refine GL.v Wpf ?_
      refine GL.v Wmv ?_
      refine GL.unwant rfl rfl rfl rfl ?_
      refine GL.unwant rfl rfl rfl rfl ?_
      refine GL.unwant rfl rfl rfl rfl ?_
      refine GL.v Wpf ?_
      refine GL.v Wmv ?_
      refine GL.unwant rfl rfl rfl rfl ?_
      refine GL.unwant rfl rfl rfl rfl ?_
      refine GL.unwant rfl rfl rfl rfl ?_
      refine GL.v Wpf ?_
      refine GL.v Wag ?_
      refine GL.nil ?_
      refine GE.seq ?_
      refine GC.ret ?_
      refine GE.block_ret ?_
      refine GE.seq_ret ?_
      -- returns, path Tf
      refine GE.ret_tmp (L' := L) (.inl rfl) rfl rfl Wsb ?_
      exact ⟨by simp [aloneB, *], rfl⟩
  · -- F
    refine GC.seq ?_
    refine GC.region ?_
    refine GL.v Wfa ?_
    refine GL.v Wlb ?_
    refine GL.v Weq ?_
    refine GL.v Wag ?_
    refine GL.nil ?_
    refine GE.seq ?_
    refine GC.ifs (fun h2 => ?_) (fun h2 => ?_)
    · -- FT
      refine GC.seq ?_
      refine GC.region ?_
      refine GL.v Wfa ?_
      refine GL.v Wlb ?_
      refine GL.callF rfl rfl (in_spec _ _ _ _ _) ?_
      refine GL.v Wmv ?_
      refine GL.gs (fun h3 => ?_) (fun h3 => ?_)
      · -- FTt
        refine GL.want rfl rfl ?_
        refine GL.v Wfa ?_
        refine GL.want rfl rfl ?_
        refine GL.v Wlb ?_
        refine GL.want rfl rfl ?_
        refine GL.v Weq ?_
        refine GL.v Wpt ?_
        refine GL.v Wmv ?_
        refine GL.gs (fun h4 => ?_) (fun h4 => ?_)
        · -- FTtt
          refine GL.want rfl rfl ?_
          refine GL.v Wfa ?_
          refine GL.want rfl rfl ?_
          refine GL.v Wlb ?_
          refine GL.want rfl rfl ?_
          refine GL.v Weq ?_
          refine GL.v Wpt ?_
          refine GL.v Wmv ?_
          refine GL.gs (fun h5 => ?_) (fun h5 => ?_)
          · -- FTttt
            refine GL.want rfl rfl ?_
            refine GL.v Wfa ?_
            refine GL.want rfl rfl ?_
            refine GL.v Wlb ?_
            refine GL.want rfl rfl ?_
            refine GL.v Weq ?_
            refine GL.v Wpt ?_
            refine GL.v Wag ?_
            refine GL.nil ?_
            refine GE.seq ?_
            refine GC.ret ?_
            refine GE.block_ret ?_
            refine GE.seq_ret ?_
            -- returns, path FTttt
            refine GE.ret_tmp (L' := L) (.inl rfl) rfl rfl Wsb ?_
            exact ⟨by simp [aloneB, *], rfl⟩
          · -- FTttf
            refine GL.unwant rfl rfl rfl rfl ?_
            refine GL.unwant rfl rfl rfl rfl ?_
            refine GL.unwant rfl rfl rfl rfl ?_
            refine GL.v Wpf ?_
            refine GL.v Wag ?_
            refine GL.nil ?_
            refine GE.seq ?_
            refine GC.ret ?_
            refine GE.block_ret ?_
            refine GE.seq_ret ?_
            -- returns, path FTttf
            refine GE.ret_tmp (L' := L) (.inl rfl) rfl rfl Wsb ?_
            exact ⟨by simp [aloneB, *], rfl⟩
        · -- FTtf
          refine GL.unwant rfl rfl rfl rfl ?_
          refine GL.unwant rfl rfl rfl rfl ?_
          refine GL.unwant rfl rfl rfl rfl ?_
          refine GL.v Wpf ?_
          refine GL.v Wmv ?_
          refine GL.unwant rfl rfl rfl rfl ?_
          refine GL.unwant rfl rfl rfl rfl ?_
          refine GL.unwant rfl rfl rfl rfl ?_
          refine GL.v Wpf ?_
          refine GL.v Wag ?_
          refine GL.nil ?_
          refine GE.seq ?_
          refine GC.ret ?_
          refine GE.block_ret ?_
          refine GE.seq_ret ?_
          -- returns, path FTtf
          refine GE.ret_tmp (L' := L) (.inl rfl) rfl rfl Wsb ?_
          exact ⟨by simp [aloneB, *], rfl⟩
      · -- FTf
        refine GL.unwant rfl rfl rfl rfl ?_
        refine GL.unwant rfl rfl rfl rfl ?_
        refine GL.unwant rfl rfl rfl rfl ?_
        refine GL.v Wpf ?_
        refine GL.v Wmv ?_
        refine GL.unwant rfl rfl rfl rfl ?_
        refine GL.unwant rfl rfl rfl rfl ?_
        refine GL.unwant rfl rfl rfl rfl ?_
        refine GL.v Wpf ?_
        refine GL.v Wmv ?_
        refine GL.unwant rfl rfl rfl rfl ?_
        refine GL.unwant rfl rfl rfl rfl ?_
        refine GL.unwant rfl rfl rfl rfl ?_
        refine GL.v Wpf ?_
        refine GL.v Wag ?_
        refine GL.nil ?_
        refine GE.seq ?_
        refine GC.ret ?_
        refine GE.block_ret ?_
        refine GE.seq_ret ?_
        -- returns, path FTf
        refine GE.ret_tmp (L' := L) (.inl rfl) rfl rfl Wsb ?_
        exact ⟨by simp [aloneB, *], rfl⟩
    · -- FF
      refine GC.seq ?_
      refine GC.region ?_
      refine GL.v Wfa ?_
      refine GL.v Wlb ?_
      refine GL.v Weq ?_
      refine GL.v Wag ?_
      refine GL.nil ?_
      refine GE.seq ?_
      refine GC.ifs (fun h3 => ?_) (fun h3 => ?_)
      · -- FFT
        refine GC.seq ?_
        refine GC.region ?_
        refine GL.v Wfa ?_
        refine GL.v Wlb ?_
        refine GL.v Weq ?_
        refine GL.v Wag ?_
        refine GL.nil ?_
        refine GE.seq ?_
        refine GC.ret ?_
        refine GE.block_ret ?_
        refine GE.seq_ret ?_
        -- returns, path FFT
        refine GE.ret_tmp (L' := L) (.inl rfl) rfl rfl Wsb ?_
        exact ⟨by simp [aloneB, *], rfl⟩
      · -- FFF
        refine GC.seq ?_
        refine GC.region ?_
        refine GL.v Wfa ?_
        refine GL.v Wlb ?_
        refine GL.callF rfl rfl (in_spec _ _ _ _ _) ?_
        refine GL.v Wag ?_
        refine GL.nil ?_
        refine GE.seq ?_
        refine GC.ifs (fun h4 => ?_) (fun h4 => ?_)
        · -- FFFT
          refine GC.seq ?_
          refine GC.region ?_
          refine GL.v Wfa ?_
          refine GL.v Wlb ?_
          refine GL.v Weq ?_
          refine GL.v Wmv ?_
          refine GL.gs (fun h5 => ?_) (fun h5 => ?_)
          · -- FFFTt
            refine GL.want rfl rfl ?_
            refine GL.v Wfa ?_
            refine GL.want rfl rfl ?_
            refine GL.v Wlb ?_
            refine GL.want rfl rfl ?_
            refine GL.v Weq ?_
            refine GL.v Wpt ?_
            refine GL.v Wag ?_
            refine GL.nil ?_
            refine GE.seq ?_
            refine GC.ret ?_
            refine GE.block_ret ?_
            refine GE.seq_ret ?_
            -- returns, path FFFTt
            refine GE.ret_tmp (L' := L) (.inl rfl) rfl rfl Wsb ?_
            exact ⟨by simp [aloneB, *], rfl⟩
          · -- FFFTf
            refine GL.unwant rfl rfl rfl rfl ?_
            refine GL.unwant rfl rfl rfl rfl ?_
            refine GL.unwant rfl rfl rfl rfl ?_
            refine GL.v Wpf ?_
            refine GL.v Wag ?_
            refine GL.nil ?_
            refine GE.seq ?_
            refine GC.ret ?_
            refine GE.block_ret ?_
            refine GE.seq_ret ?_
            -- returns, path FFFTf
            refine GE.ret_tmp (L' := L) (.inl rfl) rfl rfl Wsb ?_
            exact ⟨by simp [aloneB, *], rfl⟩
        · -- FFFF
          refine GC.skip ?_
          refine GE.block ?_
          refine GE.seq ?_
          refine GC.seq ?_
          refine GC.region ?_
          refine GL.v Wag ?_
          refine GL.nil ?_
          refine GE.seq ?_
          refine GC.ret ?_
          -- returns, path FFFF
          refine GE.ret_tmp (L' := L) (.inl rfl) rfl rfl Wsb ?_
          exact ⟨by simp [aloneB, *], rfl⟩
theorem below_spec (w0 : World) (L : List Asn) (p : Part) : Tr Try.prog 111 #[p.val] w0 L (fun v L' => ∃ A c, v = .slice A (belowL p).length c ∧ L' = row intE A c (belowL p) :: L) := by
  refine Tr.enter (args := [p.val]) Try.func111 Try.ntmps111 rfl rfl ?_
  refine GC.seq ?_
  refine GC.region ?_
  refine GL.box_agg rfl rfl ?_; intro g1
  refine GL.v Wag ?_
  refine GL.nil ?_
  refine GE.seq ?_
  refine GC.seq ?_
  refine GC.block ?_
  refine GC.seq ?_
  refine GC.region ?_
  refine GL.v Wfa ?_
  refine GL.v Wlb ?_
  refine GL.v Weq ?_
  refine GL.v Wag ?_
  refine GL.nil ?_
  refine GE.seq ?_
  refine GC.ifs (fun h1 => ?_) (fun h1 => ?_)
  · -- T
    refine GC.seq ?_
    refine GC.region ?_
    refine GL.v Wfa ?_
    refine GL.v Wlb ?_
    refine GL.v Wfa ?_
    refine GL.v Wlb ?_
    refine GL.v Wfa ?_
    refine GL.v Wlb ?_
    refine GL.buildSlice rfl (by first | exact bsInt0 | exact bsInt1 _ | exact bsInt2 _ _ | exact bsInt3 _ _ _ | exact bsInt4 _ _ _ _ | exact bsInt5 _ _ _ _ _ | exact bsInt6 _ _ _ _ _ _ | exact bsInt7 _ _ _ _ _ _ _ | exact bsInt8 _ _ _ _ _ _ _ _ | exact bsInt9 _ _ _ _ _ _ _ _ _ | exact bsInt10 _ _ _ _ _ _ _ _ _ _ | exact bsPart0 | exact bsPart1 ⟨_, _, _, _, _⟩ | exact bsNode1 ⟨_, _, _, _⟩ | exact bsPtr3 _ _ _ | exact bsSl0 | exact bsSl1 ⟨_, _, _⟩) rfl (by decide) rfl ?_; intro g13
    refine GL.v Wag ?_
    refine GL.nil ?_
    refine GE.seq ?_
    refine GC.ret ?_
    refine GE.block_ret ?_
    refine GE.seq_ret ?_
    -- returns, path T
    refine GE.ret_tmp (L' := row intE (some ⟨g13, 0, none⟩) 3 [p.a, p.b, p.c] :: L) (.inl rfl) rfl rfl Wsb ?_
    have e : belowL p = [p.a, p.b, p.c] := by simp [belowL, *]
    rw [e]; exact ⟨_, _, rfl, rfl⟩
  · -- F
    refine GC.seq ?_
    refine GC.region ?_
    refine GL.v Wfa ?_
    refine GL.v Wlb ?_
    refine GL.callF rfl rfl (in_spec _ _ _ _ _) ?_
    refine GL.v Wag ?_
    refine GL.nil ?_
    refine GE.seq ?_
    refine GC.ifs (fun h2 => ?_) (fun h2 => ?_)
    · -- FT
      refine GC.seq ?_
      refine GC.region ?_
      refine GL.v Wfa ?_
      refine GL.v Wlb ?_
      refine GL.v Wfa ?_
      refine GL.v Wlb ?_
      refine GL.buildSlice rfl (by first | exact bsInt0 | exact bsInt1 _ | exact bsInt2 _ _ | exact bsInt3 _ _ _ | exact bsInt4 _ _ _ _ | exact bsInt5 _ _ _ _ _ | exact bsInt6 _ _ _ _ _ _ | exact bsInt7 _ _ _ _ _ _ _ | exact bsInt8 _ _ _ _ _ _ _ _ | exact bsInt9 _ _ _ _ _ _ _ _ _ | exact bsInt10 _ _ _ _ _ _ _ _ _ _ | exact bsPart0 | exact bsPart1 ⟨_, _, _, _, _⟩ | exact bsNode1 ⟨_, _, _, _⟩ | exact bsPtr3 _ _ _ | exact bsSl0 | exact bsSl1 ⟨_, _, _⟩) rfl (by decide) rfl ?_; intro g22
      refine GL.v Wag ?_
      refine GL.nil ?_
      refine GE.seq ?_
      refine GC.ret ?_
      refine GE.block_ret ?_
      refine GE.seq_ret ?_
      -- returns, path FT
      refine GE.ret_tmp (L' := row intE (some ⟨g22, 0, none⟩) 2 [p.a, p.b] :: L) (.inl rfl) rfl rfl Wsb ?_
      have e : belowL p = [p.a, p.b] := by simp [belowL, *]
      rw [e]; exact ⟨_, _, rfl, rfl⟩
    · -- FF
      refine GC.skip ?_
      refine GE.block ?_
      refine GE.seq ?_
      refine GC.seq ?_
      refine GC.region ?_
      refine GL.v Wag ?_
      refine GL.nil ?_
      refine GE.seq ?_
      refine GC.ret ?_
      -- returns, path FF
      refine GE.state (fun _ hs => hs.empty intE none) ?_
      refine GE.ret_tmp (L' := row intE none 0 [] :: L) (.inl rfl) rfl rfl Wsb ?_
      have e : belowL p = [] := by simp [belowL, *]
      rw [e]; exact ⟨_, _, rfl, rfl⟩
theorem last_spec (w0 : World) (L : List Asn) (A : Option Addr) (n c : Nat) (hn : n ≤ 2000000) : Tr Try.prog 139 #[.agg #[.slice A n c]] w0 L (fun v L' => v = .int .i64 ((n : Int) - 1) ∧ L' = L) := by
  refine Tr.enter (args := [.agg #[.slice A n c]]) Try.func139 Try.ntmps139 rfl rfl ?_
  refine GC.seq ?_
  refine GC.region ?_
  refine GL.box_agg rfl rfl ?_; intro g1
  refine GL.v Wag ?_
  refine GL.nil ?_
  refine GE.seq ?_
  refine GC.seq ?_
  refine GC.region ?_
  refine GL.v Wfa ?_
  refine GL.v Wlb ?_
  refine GL.v Wln ?_
  refine GL.v Wsu ?_
  refine GL.v Wag ?_
  refine GL.nil ?_
  refine GE.seq ?_
  refine GC.ret ?_
  -- returns, path 
  refine GE.ret_tmp (L' := L) (.inl rfl) rfl rfl Wsb ?_
  exact ⟨rfl, rfl⟩

/-! the reference's -/
theorem arity_spec (w0 : World) (L : List Asn) (k : Int) : Tr Try.prog 137 #[.int .i64 k] w0 L (fun v L' => v = .int .i64 (arityI k) ∧ L' = L) := by
  refine Tr.enter (args := [.int .i64 k]) Try.func137 Try.ntmps137 rfl rfl ?_
  refine GC.seq ?_
  refine GC.region ?_
  refine GL.v Wag ?_
  refine GL.nil ?_
  refine GE.seq ?_
  refine GC.seq ?_
  refine GC.seq ?_
  refine GC.region ?_
  refine GL.v Wmv ?_
  refine GL.nil ?_
  refine GE.seq ?_
  refine GC.block ?_
  refine GC.seq ?_
  refine GC.seq ?_
  refine GC.region ?_
  refine GL.v Weq ?_
  refine GL.v Wag ?_
  refine GL.nil ?_
  refine GE.seq ?_
  refine GC.ifs (fun h1 => ?_) (fun h1 => ?_)
  · -- T
    refine GC.skip ?_
    refine GE.seq ?_
    refine GC.cond_true rfl ?_
    refine GC.seq ?_
    refine GC.region ?_
    refine GL.v Wag ?_
    refine GL.nil ?_
    refine GE.seq ?_
    refine GC.ret ?_
    refine GE.block_ret ?_
    refine GE.seq_ret ?_
    -- returns, path T
    refine GE.ret_tmp (L' := L) (.inl rfl) rfl rfl Wsb ?_
    exact ⟨by unfold arityI; (repeat' split) <;> first | rfl | omega, rfl⟩
  · -- F
    refine GC.region ?_
    refine GL.v Weq ?_
    refine GL.v Wag ?_
    refine GL.nil ?_
    refine GE.seq ?_
    refine GC.ifs (fun h2 => ?_) (fun h2 => ?_)
    · -- FT
      refine GC.seq ?_
      refine GC.region ?_
      refine GL.v Wag ?_
      refine GL.nil ?_
      refine GE.seq ?_
      refine GC.ret ?_
      refine GE.block_ret ?_
      refine GE.seq_ret ?_
      -- returns, path FT
      refine GE.ret_tmp (L' := L) (.inl rfl) rfl rfl Wsb ?_
      exact ⟨by unfold arityI; (repeat' split) <;> first | rfl | omega, rfl⟩
    · -- FF
      refine GC.seq ?_
      refine GC.seq ?_
      refine GC.region ?_
      refine GL.v Weq ?_
      refine GL.v Wag ?_
      refine GL.nil ?_
      refine GE.seq ?_
      refine GC.ifs (fun h3 => ?_) (fun h3 => ?_)
      · -- FFT
        refine GC.skip ?_
        refine GE.seq ?_
        refine GC.cond_true rfl ?_
        refine GC.seq ?_
        refine GC.region ?_
        refine GL.v Wag ?_
        refine GL.nil ?_
        refine GE.seq ?_
        refine GC.ret ?_
        refine GE.block_ret ?_
        refine GE.seq_ret ?_
        -- returns, path FFT
        refine GE.ret_tmp (L' := L) (.inl rfl) rfl rfl Wsb ?_
        exact ⟨by unfold arityI; (repeat' split) <;> first | rfl | omega, rfl⟩
      · -- FFF
        refine GC.seq ?_
        refine GC.region ?_
        refine GL.v Weq ?_
        refine GL.v Wag ?_
        refine GL.nil ?_
        refine GE.seq ?_
        refine GC.ifs (fun h4 => ?_) (fun h4 => ?_)
        · -- FFFT
          refine GC.skip ?_
          refine GE.seq ?_
          refine GC.cond_true rfl ?_
          refine GC.seq ?_
          refine GC.region ?_
          refine GL.v Wag ?_
          refine GL.nil ?_
          refine GE.seq ?_
          refine GC.ret ?_
          refine GE.block_ret ?_
          refine GE.seq_ret ?_
          -- returns, path FFFT
          refine GE.ret_tmp (L' := L) (.inl rfl) rfl rfl Wsb ?_
          exact ⟨by unfold arityI; (repeat' split) <;> first | rfl | omega, rfl⟩
        · -- FFFF
          refine GC.seq ?_
          refine GC.region ?_
          refine GL.v Weq ?_
          refine GL.v Wag ?_
          refine GL.nil ?_
          refine GE.seq ?_
          refine GC.ifs (fun h5 => ?_) (fun h5 => ?_)
          · -- FFFFT
            refine GC.skip ?_
            refine GE.seq ?_
            refine GC.cond_true rfl ?_
            refine GC.seq ?_
            refine GC.region ?_
            refine GL.v Wag ?_
            refine GL.nil ?_
            refine GE.seq ?_
            refine GC.ret ?_
            refine GE.block_ret ?_
            refine GE.seq_ret ?_
            -- returns, path FFFFT
            refine GE.ret_tmp (L' := L) (.inl rfl) rfl rfl Wsb ?_
            exact ⟨by unfold arityI; (repeat' split) <;> first | rfl | omega, rfl⟩
          · -- FFFFF
            refine GC.seq ?_
            refine GC.region ?_
            refine GL.v Weq ?_
            refine GL.v Wag ?_
            refine GL.nil ?_
            refine GE.seq ?_
            refine GC.ifs (fun h6 => ?_) (fun h6 => ?_)
            · -- FFFFFT
              refine GC.skip ?_
              refine GE.seq ?_
              refine GC.cond_true rfl ?_
              refine GC.seq ?_
              refine GC.region ?_
              refine GL.v Wag ?_
              refine GL.nil ?_
              refine GE.seq ?_
              refine GC.ret ?_
              refine GE.block_ret ?_
              refine GE.seq_ret ?_
              -- returns, path FFFFFT
              refine GE.ret_tmp (L' := L) (.inl rfl) rfl rfl Wsb ?_
              exact ⟨by unfold arityI; (repeat' split) <;> first | rfl | omega, rfl⟩
            · -- FFFFFF
              refine GC.seq ?_
              refine GC.region ?_
              refine GL.v Weq ?_
              refine GL.v Wag ?_
              refine GL.nil ?_
              refine GE.seq ?_
              refine GC.ifs (fun h7 => ?_) (fun h7 => ?_)
              · -- FFFFFFT
                refine GC.skip ?_
                refine GE.seq ?_
                refine GC.cond_true rfl ?_
                refine GC.seq ?_
                refine GC.region ?_
                refine GL.v Wag ?_
                refine GL.nil ?_
                refine GE.seq ?_
                refine GC.ret ?_
                refine GE.block_ret ?_
                refine GE.seq_ret ?_
                -- returns, path FFFFFFT
                refine GE.ret_tmp (L' := L) (.inl rfl) rfl rfl Wsb ?_
                exact ⟨by unfold arityI; (repeat' split) <;> first | rfl | omega, rfl⟩
              · -- FFFFFFF
                refine GC.region ?_
                refine GL.v Weq ?_
                refine GL.v Wag ?_
                refine GL.nil ?_
                refine GE.seq ?_
                refine GC.ifs (fun h8 => ?_) (fun h8 => ?_)
                · -- FFFFFFFT
                  refine GC.seq ?_
                  refine GC.region ?_
                  refine GL.v Wag ?_
                  refine GL.nil ?_
                  refine GE.seq ?_
                  refine GC.ret ?_
                  refine GE.block_ret ?_
                  refine GE.seq_ret ?_
                  -- returns, path FFFFFFFT
                  refine GE.ret_tmp (L' := L) (.inl rfl) rfl rfl Wsb ?_
                  exact ⟨by unfold arityI; (repeat' split) <;> first | rfl | omega, rfl⟩
                · -- FFFFFFFF
                  refine GC.seq ?_
                  refine GC.region ?_
                  refine GL.v Weq ?_
                  refine GL.v Wag ?_
                  refine GL.nil ?_
                  refine GE.seq ?_
                  refine GC.ifs (fun h9 => ?_) (fun h9 => ?_)
                  · -- FFFFFFFFT
                    refine GC.seq ?_
                    refine GC.region ?_
                    refine GL.v Wag ?_
                    refine GL.nil ?_
                    refine GE.seq ?_
                    refine GC.ret ?_
                    refine GE.block_ret ?_
                    refine GE.seq_ret ?_
                    -- returns, path FFFFFFFFT
                    refine GE.ret_tmp (L' := L) (.inl rfl) rfl rfl Wsb ?_
                    exact ⟨by unfold arityI; (repeat' split) <;> first | rfl | omega, rfl⟩
                  · -- FFFFFFFFF
                    refine GC.skip ?_
                    refine GE.block ?_
                    refine GE.seq ?_
                    refine GC.seq ?_
                    refine GC.region ?_
                    refine GL.v Wag ?_
                    refine GL.nil ?_
                    refine GE.seq ?_
                    refine GC.ret ?_
                    -- returns, path FFFFFFFFF
                    refine GE.ret_tmp (L' := L) (.inl rfl) rfl rfl Wsb ?_
                    exact ⟨by unfold arityI; (repeat' split) <;> first | rfl | omega, rfl⟩
theorem numberPart_spec (w0 : World) (L : List Asn) (k : Int) : Tr Try.prog 136 #[.int .i64 k] w0 L (fun v L' => v = (numPart k).val ∧ L' = L) := by
  refine Tr.enter (args := [.int .i64 k]) Try.func136 Try.ntmps136 rfl rfl ?_
  refine GC.seq ?_
  refine GC.region ?_
  refine GL.alloc rfl ?_; intro g2
  refine GL.nil ?_
  refine GE.seq ?_
  refine GC.seq ?_
  refine GC.region ?_
  refine GL.v Wmv ?_
  refine GL.v (by exact EvP.r (Ev.build rfl (by first | exact bdPart ⟨_, _, _, _, _⟩ | exact bdReader _ _ _ | exact bdPart4 _ _ _ _ | exact bdForm _ _ _ | exact bdForm0 | exact bdGraph0 | exact bdGraph _ _ _ | exact bdNode1 _ | exact bdNode2 _ _ _ _ | exact bdHist0 | exact bdHist1 _ _ _ | exact bdHist2 _ _ _ _))) ?_
  refine GL.store_varN rfl rfl rfl Wpk (by rfl) (by rfl) (by rfl) ?_
  refine GL.nil ?_
  refine GE.seq ?_
  refine GC.ret ?_
  -- returns, path 
  refine GE.ret_cell (L' := L) (.inl rfl) rfl rfl rfl (BlkRd.of_pick Wpk) (by rfl) Wsb ?_
  exact ⟨rfl, rfl⟩
theorem goodPart_spec (w0 : World) (L : List Asn) (p : Part) (i : Int) (i0 : 0 ≤ i) (i1 : i ≤ 2000000) : Tr Try.prog 122 #[p.val, .int .i64 i] w0 L (fun v L' => v = .bool (goodB p i) ∧ L' = L) := by
  refine Tr.enter (args := [p.val, .int .i64 i]) Try.func122 Try.ntmps122 rfl rfl ?_
  refine GC.seq ?_
  refine GC.region ?_
  refine GL.box_agg rfl rfl ?_; intro g2
  refine GL.v Wag ?_
  refine GL.nil ?_
  refine GE.seq ?_
  refine GC.seq ?_
  refine GC.seq ?_
  refine GC.region ?_
  refine GL.v Wfa ?_
  refine GL.v Wlb ?_
  refine GL.callF rfl rfl (arity_spec _ _ _) ?_
  refine GL.nil ?_
  refine GE.seq ?_
  refine GC.block ?_
  refine GC.seq ?_
  refine GC.region ?_
  refine GL.v Weq ?_
  refine GL.v Wag ?_
  refine GL.nil ?_
  refine GE.seq ?_
  refine GC.ifs (fun h1 => ?_) (fun h1 => ?_)
  · -- T
    refine GC.seq ?_
    refine GC.region ?_
    refine GL.v Wag ?_
    refine GL.nil ?_
    refine GE.seq ?_
    refine GC.seq ?_
    refine GC.seq ?_
    refine GC.region ?_
    refine GL.v Wfa ?_
    refine GL.v Wlb ?_
    refine GL.v Weq ?_
    refine GL.nil ?_
    refine GE.seq ?_
    refine GC.ifs (fun h2 => ?_) (fun h2 => ?_)
    · -- TT
      refine GC.region ?_
      refine GL.v Wag ?_
      refine GL.nil ?_
      refine GE.seq ?_
      refine GC.seq ?_
      refine GC.region ?_
      refine GL.v Wfa ?_
      refine GL.v Wlb ?_
      refine GL.v Weq ?_
      refine GL.v Wmv ?_
      refine GL.gs (fun h3 => ?_) (fun h3 => ?_)
      · -- TTt
        refine GL.want rfl rfl ?_
        refine GL.v Wfa ?_
        refine GL.want rfl rfl ?_
        refine GL.v Wlb ?_
        refine GL.want rfl rfl ?_
        refine GL.v Weq ?_
        refine GL.v Wpt ?_
        refine GL.v Wmv ?_
        refine GL.gs (fun h4 => ?_) (fun h4 => ?_)
        · -- TTtt
          refine GL.want rfl rfl ?_
          refine GL.v Wfa ?_
          refine GL.want rfl rfl ?_
          refine GL.v Wlb ?_
          refine GL.want rfl rfl ?_
          refine GL.v Weq ?_
          refine GL.v Wpt ?_
          refine GL.v Wmv ?_
          refine GL.gs (fun h5 => ?_) (fun h5 => ?_)
          · -- TTttt
            refine GL.want rfl rfl ?_
            refine GL.v Wfa ?_
            refine GL.want rfl rfl ?_
            refine GL.v Wlb ?_
            refine GL.want rfl rfl ?_
            refine GL.v Wmv ?_
            refine GL.want rfl rfl ?_
            refine GL.callF rfl rfl (inRange_spec _ _ _ _ _) ?_
            refine GL.v Wpt ?_
            refine GL.v Wag ?_
            refine GL.nil ?_
            refine GE.seq ?_
            refine GC.ret ?_
            refine GE.block_ret ?_
            refine GE.seq_ret ?_
            -- returns, path TTttt
            refine GE.ret_tmp (L' := L) (.inl rfl) rfl rfl Wsb ?_
            exact ⟨by simp [goodB, show arityI 1 = 0 from rfl, *], rfl⟩
          · -- TTttf
            refine GL.unwant rfl rfl rfl rfl ?_
            refine GL.unwant rfl rfl rfl rfl ?_
            refine GL.unwant rfl rfl rfl rfl ?_
            refine GL.unwant rfl rfl rfl rfl ?_
            refine GL.v Wpf ?_
            refine GL.v Wag ?_
            refine GL.nil ?_
            refine GE.seq ?_
            refine GC.ret ?_
            refine GE.block_ret ?_
            refine GE.seq_ret ?_
            -- returns, path TTttf
            refine GE.ret_tmp (L' := L) (.inl rfl) rfl rfl Wsb ?_
            exact ⟨by simp [goodB, show arityI 1 = 0 from rfl, *], rfl⟩
        · -- TTtf
          refine GL.unwant rfl rfl rfl rfl ?_
          refine GL.unwant rfl rfl rfl rfl ?_
          refine GL.unwant rfl rfl rfl rfl ?_
          refine GL.v Wpf ?_
          refine GL.v Wmv ?_
          refine GL.unwant rfl rfl rfl rfl ?_
          refine GL.unwant rfl rfl rfl rfl ?_
          refine GL.unwant rfl rfl rfl rfl ?_
          refine GL.unwant rfl rfl rfl rfl ?_
          refine GL.v Wpf ?_
          refine GL.v Wag ?_
          refine GL.nil ?_
          refine GE.seq ?_
          refine GC.ret ?_
          refine GE.block_ret ?_
          refine GE.seq_ret ?_
          -- returns, path TTtf
          refine GE.ret_tmp (L' := L) (.inl rfl) rfl rfl Wsb ?_
          exact ⟨by simp [goodB, show arityI 1 = 0 from rfl, *], rfl⟩
      · -- TTf
        refine GL.unwant rfl rfl rfl rfl ?_
        refine GL.unwant rfl rfl rfl rfl ?_
        refine GL.unwant rfl rfl rfl rfl ?_
        refine GL.v Wpf ?_
        refine GL.v Wmv ?_
        refine GL.unwant rfl rfl rfl rfl ?_
        refine GL.unwant rfl rfl rfl rfl ?_
        refine GL.unwant rfl rfl rfl rfl ?_
        refine GL.v Wpf ?_
        refine GL.v Wmv ?_
        refine GL.unwant rfl rfl rfl rfl ?_
        refine GL.unwant rfl rfl rfl rfl ?_
        refine GL.unwant rfl rfl rfl rfl ?_
        refine GL.unwant rfl rfl rfl rfl ?_
        refine GL.v Wpf ?_
        refine GL.v Wag ?_
        refine GL.nil ?_
        refine GE.seq ?_
        refine GC.ret ?_
        refine GE.block_ret ?_
        refine GE.seq_ret ?_
        -- returns, path TTf
        refine GE.ret_tmp (L' := L) (.inl rfl) rfl rfl Wsb ?_
        exact ⟨by simp [goodB, show arityI 1 = 0 from rfl, *], rfl⟩
    · -- TF
      refine GC.skip ?_
      refine GE.seq ?_
      refine GC.seq ?_
      refine GC.region ?_
      refine GL.v Wfa ?_
      refine GL.v Wlb ?_
      refine GL.v Weq ?_
      refine GL.v Wmv ?_
      refine GL.gs (fun h3 => ?_) (fun h3 => ?_)
      · -- TFt
        refine GL.want rfl rfl ?_
        refine GL.v Wfa ?_
        refine GL.want rfl rfl ?_
        refine GL.v Wlb ?_
        refine GL.want rfl rfl ?_
        refine GL.v Weq ?_
        refine GL.v Wpt ?_
        refine GL.v Wmv ?_
        refine GL.gs (fun h4 => ?_) (fun h4 => ?_)
        · -- TFtt
          refine GL.want rfl rfl ?_
          refine GL.v Wfa ?_
          refine GL.want rfl rfl ?_
          refine GL.v Wlb ?_
          refine GL.want rfl rfl ?_
          refine GL.v Weq ?_
          refine GL.v Wpt ?_
          refine GL.v Wmv ?_
          refine GL.gs (fun h5 => ?_) (fun h5 => ?_)
          · -- TFttt
            refine GL.want rfl rfl ?_
            refine GL.v Wfa ?_
            refine GL.want rfl rfl ?_
            refine GL.v Wlb ?_
            refine GL.want rfl rfl ?_
            refine GL.v Wmv ?_
            refine GL.want rfl rfl ?_
            refine GL.callF rfl rfl (inRange_spec _ _ _ _ _) ?_
            refine GL.v Wpt ?_
            refine GL.v Wag ?_
            refine GL.nil ?_
            refine GE.seq ?_
            refine GC.ret ?_
            refine GE.block_ret ?_
            refine GE.seq_ret ?_
            -- returns, path TFttt
            refine GE.ret_tmp (L' := L) (.inl rfl) rfl rfl Wsb ?_
            exact ⟨by simp [goodB, show arityI 1 = 0 from rfl, *], rfl⟩
          · -- TFttf
            refine GL.unwant rfl rfl rfl rfl ?_
            refine GL.unwant rfl rfl rfl rfl ?_
            refine GL.unwant rfl rfl rfl rfl ?_
            refine GL.unwant rfl rfl rfl rfl ?_
            refine GL.v Wpf ?_
            refine GL.v Wag ?_
            refine GL.nil ?_
            refine GE.seq ?_
            refine GC.ret ?_
            refine GE.block_ret ?_
            refine GE.seq_ret ?_
            -- returns, path TFttf
            refine GE.ret_tmp (L' := L) (.inl rfl) rfl rfl Wsb ?_
            exact ⟨by simp [goodB, show arityI 1 = 0 from rfl, *], rfl⟩
        · -- TFtf
          refine GL.unwant rfl rfl rfl rfl ?_
          refine GL.unwant rfl rfl rfl rfl ?_
          refine GL.unwant rfl rfl rfl rfl ?_
          refine GL.v Wpf ?_
          refine GL.v Wmv ?_
          refine GL.unwant rfl rfl rfl rfl ?_
          refine GL.unwant rfl rfl rfl rfl ?_
          refine GL.unwant rfl rfl rfl rfl ?_
          refine GL.unwant rfl rfl rfl rfl ?_
          refine GL.v Wpf ?_
          refine GL.v Wag ?_
          refine GL.nil ?_
          refine GE.seq ?_
          refine GC.ret ?_
          refine GE.block_ret ?_
          refine GE.seq_ret ?_
          -- returns, path TFtf
          refine GE.ret_tmp (L' := L) (.inl rfl) rfl rfl Wsb ?_
          exact ⟨by simp [goodB, show arityI 1 = 0 from rfl, *], rfl⟩
      · -- TFf
        refine GL.unwant rfl rfl rfl rfl ?_
        refine GL.unwant rfl rfl rfl rfl ?_
        refine GL.unwant rfl rfl rfl rfl ?_
        refine GL.v Wpf ?_
        refine GL.v Wmv ?_
        refine GL.unwant rfl rfl rfl rfl ?_
        refine GL.unwant rfl rfl rfl rfl ?_
        refine GL.unwant rfl rfl rfl rfl ?_
        refine GL.v Wpf ?_
        refine GL.v Wmv ?_
        refine GL.unwant rfl rfl rfl rfl ?_
        refine GL.unwant rfl rfl rfl rfl ?_
        refine GL.unwant rfl rfl rfl rfl ?_
        refine GL.unwant rfl rfl rfl rfl ?_
        refine GL.v Wpf ?_
        refine GL.v Wag ?_
        refine GL.nil ?_
        refine GE.seq ?_
        refine GC.ret ?_
        refine GE.block_ret ?_
        refine GE.seq_ret ?_
        -- returns, path TFf
        refine GE.ret_tmp (L' := L) (.inl rfl) rfl rfl Wsb ?_
        exact ⟨by simp [goodB, show arityI 1 = 0 from rfl, *], rfl⟩
  · -- F
    refine GC.seq ?_
    refine GC.region ?_
    refine GL.v Weq ?_
    refine GL.v Wag ?_
    refine GL.nil ?_
    refine GE.seq ?_
    refine GC.ifs (fun h2 => ?_) (fun h2 => ?_)
    · -- FT
      refine GC.seq ?_
      refine GC.region ?_
      refine GL.v Wfa ?_
      refine GL.v Wlb ?_
      refine GL.v Wmv ?_
      refine GL.v Wsu ?_
      refine GL.callF rfl rfl (inRange_spec _ _ _ _ _) ?_
      refine GL.v Wmv ?_
      refine GL.gs (fun h3 => ?_) (fun h3 => ?_)
      · -- FTt
        refine GL.want rfl rfl ?_
        refine GL.v Wfa ?_
        refine GL.want rfl rfl ?_
        refine GL.v Wlb ?_
        refine GL.want rfl rfl ?_
        refine GL.v Wmv ?_
        refine GL.want rfl rfl ?_
        refine GL.v Wsu ?_
        refine GL.want rfl rfl ?_
        refine GL.callF rfl rfl (inRange_spec _ _ _ _ _) ?_
        refine GL.v Wpt ?_
        refine GL.v Wmv ?_
        refine GL.gs (fun h4 => ?_) (fun h4 => ?_)
        · -- FTtt
          refine GL.want rfl rfl ?_
          refine GL.v Wfa ?_
          refine GL.want rfl rfl ?_
          refine GL.v Wlb ?_
          refine GL.want rfl rfl ?_
          refine GL.v Weq ?_
          refine GL.v Wpt ?_
          refine GL.v Wmv ?_
          refine GL.gs (fun h5 => ?_) (fun h5 => ?_)
          · -- FTttt
            refine GL.want rfl rfl ?_
            refine GL.v Wfa ?_
            refine GL.want rfl rfl ?_
            refine GL.v Wlb ?_
            refine GL.want rfl rfl ?_
            refine GL.v Weq ?_
            refine GL.v Wpt ?_
            refine GL.v Wag ?_
            refine GL.nil ?_
            refine GE.seq ?_
            refine GC.ret ?_
            refine GE.block_ret ?_
            refine GE.seq_ret ?_
            -- returns, path FTttt
            refine GE.ret_tmp (L' := L) (.inl rfl) rfl rfl Wsb ?_
            exact ⟨by simp [goodB, show arityI 1 = 0 from rfl, *], rfl⟩
          · -- FTttf
            refine GL.unwant rfl rfl rfl rfl ?_
            refine GL.unwant rfl rfl rfl rfl ?_
            refine GL.unwant rfl rfl rfl rfl ?_
            refine GL.v Wpf ?_
            refine GL.v Wag ?_
            refine GL.nil ?_
            refine GE.seq ?_
            refine GC.ret ?_
            refine GE.block_ret ?_
            refine GE.seq_ret ?_
            -- returns, path FTttf
            refine GE.ret_tmp (L' := L) (.inl rfl) rfl rfl Wsb ?_
            exact ⟨by simp [goodB, show arityI 1 = 0 from rfl, *], rfl⟩
        · -- FTtf
          refine GL.unwant rfl rfl rfl rfl ?_
          refine GL.unwant rfl rfl rfl rfl ?_
          refine GL.unwant rfl rfl rfl rfl ?_
          refine GL.v Wpf ?_
          refine GL.v Wmv ?_
          refine GL.unwant rfl rfl rfl rfl ?_
          refine GL.unwant rfl rfl rfl rfl ?_
          refine GL.unwant rfl rfl rfl rfl ?_
          refine GL.v Wpf ?_
          refine GL.v Wag ?_
          refine GL.nil ?_
          refine GE.seq ?_
          refine GC.ret ?_
          refine GE.block_ret ?_
          refine GE.seq_ret ?_
          -- returns, path FTtf
          refine GE.ret_tmp (L' := L) (.inl rfl) rfl rfl Wsb ?_
          exact ⟨by simp [goodB, show arityI 1 = 0 from rfl, *], rfl⟩
      · -- FTf
        refine GL.unwant rfl rfl rfl rfl ?_
        refine GL.unwant rfl rfl rfl rfl ?_
        refine GL.unwant rfl rfl rfl rfl ?_
        refine GL.unwant rfl rfl rfl rfl ?_
        refine GL.unwant rfl rfl rfl rfl ?_
        refine GL.v Wpf ?_
        refine GL.v Wmv ?_
        refine GL.unwant rfl rfl rfl rfl ?_
        refine GL.unwant rfl rfl rfl rfl ?_
        refine GL.unwant rfl rfl rfl rfl ?_
        refine GL.v Wpf ?_
        refine GL.v Wmv ?_
        refine GL.unwant rfl rfl rfl rfl ?_
        refine GL.unwant rfl rfl rfl rfl ?_
        refine GL.unwant rfl rfl rfl rfl ?_
        refine GL.v Wpf ?_
        refine GL.v Wag ?_
        refine GL.nil ?_
        refine GE.seq ?_
        refine GC.ret ?_
        refine GE.block_ret ?_
        refine GE.seq_ret ?_
        -- returns, path FTf
        refine GE.ret_tmp (L' := L) (.inl rfl) rfl rfl Wsb ?_
        exact ⟨by simp [goodB, show arityI 1 = 0 from rfl, *], rfl⟩
    · -- FF
      refine GC.seq ?_
      refine GC.region ?_
      refine GL.v Weq ?_
      refine GL.v Wag ?_
      refine GL.nil ?_
      refine GE.seq ?_
      refine GC.ifs (fun h3 => ?_) (fun h3 => ?_)
      · -- FFT
        refine GC.seq ?_
        refine GC.region ?_
        refine GL.v Wfa ?_
        refine GL.v Wlb ?_
        refine GL.v Wmv ?_
        refine GL.v Wsu ?_
        refine GL.callF rfl rfl (inRange_spec _ _ _ _ _) ?_
        refine GL.v Wmv ?_
        refine GL.gs (fun h4 => ?_) (fun h4 => ?_)
        · -- FFTt
          refine GL.want rfl rfl ?_
          refine GL.v Wfa ?_
          refine GL.want rfl rfl ?_
          refine GL.v Wlb ?_
          refine GL.want rfl rfl ?_
          refine GL.v Wmv ?_
          refine GL.want rfl rfl ?_
          refine GL.v Wsu ?_
          refine GL.want rfl rfl ?_
          refine GL.callF rfl rfl (inRange_spec _ _ _ _ _) ?_
          refine GL.v Wpt ?_
          refine GL.v Wmv ?_
          refine GL.gs (fun h5 => ?_) (fun h5 => ?_)
          · -- FFTtt
            refine GL.want rfl rfl ?_
            refine GL.v Wfa ?_
            refine GL.want rfl rfl ?_
            refine GL.v Wlb ?_
            refine GL.want rfl rfl ?_
            refine GL.v Wmv ?_
            refine GL.want rfl rfl ?_
            refine GL.v Wsu ?_
            refine GL.want rfl rfl ?_
            refine GL.callF rfl rfl (inRange_spec _ _ _ _ _) ?_
            refine GL.v Wpt ?_
            refine GL.v Wmv ?_
            refine GL.gs (fun h6 => ?_) (fun h6 => ?_)
            · -- FFTttt
              refine GL.want rfl rfl ?_
              refine GL.v Wfa ?_
              refine GL.want rfl rfl ?_
              refine GL.v Wlb ?_
              refine GL.want rfl rfl ?_
              refine GL.v Weq ?_
              refine GL.v Wpt ?_
              refine GL.v Wag ?_
              refine GL.nil ?_
              refine GE.seq ?_
              refine GC.ret ?_
              refine GE.block_ret ?_
              refine GE.seq_ret ?_
              -- returns, path FFTttt
              refine GE.ret_tmp (L' := L) (.inl rfl) rfl rfl Wsb ?_
              exact ⟨by simp [goodB, show arityI 1 = 0 from rfl, *], rfl⟩
            · -- FFTttf
              refine GL.unwant rfl rfl rfl rfl ?_
              refine GL.unwant rfl rfl rfl rfl ?_
              refine GL.unwant rfl rfl rfl rfl ?_
              refine GL.v Wpf ?_
              refine GL.v Wag ?_
              refine GL.nil ?_
              refine GE.seq ?_
              refine GC.ret ?_
              refine GE.block_ret ?_
              refine GE.seq_ret ?_
              -- returns, path FFTttf
              refine GE.ret_tmp (L' := L) (.inl rfl) rfl rfl Wsb ?_
              exact ⟨by simp [goodB, show arityI 1 = 0 from rfl, *], rfl⟩
          · -- FFTtf
            refine GL.unwant rfl rfl rfl rfl ?_
            refine GL.unwant rfl rfl rfl rfl ?_
            refine GL.unwant rfl rfl rfl rfl ?_
            refine GL.unwant rfl rfl rfl rfl ?_
            refine GL.unwant rfl rfl rfl rfl ?_
            refine GL.v Wpf ?_
            refine GL.v Wmv ?_
            refine GL.unwant rfl rfl rfl rfl ?_
            refine GL.unwant rfl rfl rfl rfl ?_
            refine GL.unwant rfl rfl rfl rfl ?_
            refine GL.v Wpf ?_
            refine GL.v Wag ?_
            refine GL.nil ?_
            refine GE.seq ?_
            refine GC.ret ?_
            refine GE.block_ret ?_
            refine GE.seq_ret ?_
            -- returns, path FFTtf
            refine GE.ret_tmp (L' := L) (.inl rfl) rfl rfl Wsb ?_
            exact ⟨by simp [goodB, show arityI 1 = 0 from rfl, *], rfl⟩
        · -- FFTf
          refine GL.unwant rfl rfl rfl rfl ?_
          refine GL.unwant rfl rfl rfl rfl ?_
          refine GL.unwant rfl rfl rfl rfl ?_
          refine GL.unwant rfl rfl rfl rfl ?_
          refine GL.unwant rfl rfl rfl rfl ?_
          refine GL.v Wpf ?_
          refine GL.v Wmv ?_
          refine GL.unwant rfl rfl rfl rfl ?_
          refine GL.unwant rfl rfl rfl rfl ?_
          refine GL.unwant rfl rfl rfl rfl ?_
          refine GL.unwant rfl rfl rfl rfl ?_
          refine GL.unwant rfl rfl rfl rfl ?_
          refine GL.v Wpf ?_
          refine GL.v Wmv ?_
          refine GL.unwant rfl rfl rfl rfl ?_
          refine GL.unwant rfl rfl rfl rfl ?_
          refine GL.unwant rfl rfl rfl rfl ?_
          refine GL.v Wpf ?_
          refine GL.v Wag ?_
          refine GL.nil ?_
          refine GE.seq ?_
          refine GC.ret ?_
          refine GE.block_ret ?_
          refine GE.seq_ret ?_
          -- returns, path FFTf
          refine GE.ret_tmp (L' := L) (.inl rfl) rfl rfl Wsb ?_
          exact ⟨by simp [goodB, show arityI 1 = 0 from rfl, *], rfl⟩
      · -- FFF
        refine GC.skip ?_
        refine GE.block ?_
        refine GE.seq ?_
        refine GC.seq ?_
        refine GC.region ?_
        refine GL.v Wag ?_
        refine GL.nil ?_
        refine GE.seq ?_
        refine GC.ret ?_
        -- returns, path FFF
        refine GE.ret_tmp (L' := L) (.inl rfl) rfl rfl Wsb ?_
        exact ⟨by simp [goodB, show arityI 1 = 0 from rfl, *], rfl⟩
theorem sbelow_spec (w0 : World) (L : List Asn) (p : Part) : Tr Try.prog 123 #[p.val] w0 L (fun v L' => ∃ A c, v = .slice A (belowL p).length c ∧ L' = row intE A c (belowL p) :: L) := by
  refine Tr.enter (args := [p.val]) Try.func123 Try.ntmps123 rfl rfl ?_
  refine GC.seq ?_
  refine GC.region ?_
  refine GL.box_agg rfl rfl ?_; intro g1
  refine GL.v Wag ?_
  refine GL.nil ?_
  refine GE.seq ?_
  refine GC.seq ?_
  refine GC.seq ?_
  refine GC.region ?_
  refine GL.v Wfa ?_
  refine GL.v Wlb ?_
  refine GL.callF rfl rfl (arity_spec _ _ _) ?_
  refine GL.nil ?_
  refine GE.seq ?_
  refine GC.block ?_
  refine GC.seq ?_
  refine GC.region ?_
  refine GL.v Weq ?_
  refine GL.v Wag ?_
  refine GL.nil ?_
  refine GE.seq ?_
  refine GC.ifs (fun h1 => ?_) (fun h1 => ?_)
  · -- T
    refine GC.seq ?_
    refine GC.region ?_
    refine GL.v Wfa ?_
    refine GL.v Wlb ?_
    refine GL.v Wfa ?_
    refine GL.v Wlb ?_
    refine GL.buildSlice rfl (by first | exact bsInt0 | exact bsInt1 _ | exact bsInt2 _ _ | exact bsInt3 _ _ _ | exact bsInt4 _ _ _ _ | exact bsInt5 _ _ _ _ _ | exact bsInt6 _ _ _ _ _ _ | exact bsInt7 _ _ _ _ _ _ _ | exact bsInt8 _ _ _ _ _ _ _ _ | exact bsInt9 _ _ _ _ _ _ _ _ _ | exact bsInt10 _ _ _ _ _ _ _ _ _ _ | exact bsPart0 | exact bsPart1 ⟨_, _, _, _, _⟩ | exact bsNode1 ⟨_, _, _, _⟩ | exact bsPtr3 _ _ _ | exact bsSl0 | exact bsSl1 ⟨_, _, _⟩) rfl (by decide) rfl ?_; intro g12
    refine GL.v Wag ?_
    refine GL.nil ?_
    refine GE.seq ?_
    refine GC.ret ?_
    refine GE.block_ret ?_
    refine GE.seq_ret ?_
    -- returns, path T
    refine GE.ret_tmp (L' := row intE (some ⟨g12, 0, none⟩) 2 [p.a, p.b] :: L) (.inl rfl) rfl rfl Wsb ?_
    rw [belowL_ar2 h1]; exact ⟨_, _, rfl, rfl⟩
  · -- F
    refine GC.seq ?_
    refine GC.region ?_
    refine GL.v Weq ?_
    refine GL.v Wag ?_
    refine GL.nil ?_
    refine GE.seq ?_
    refine GC.ifs (fun h2 => ?_) (fun h2 => ?_)
    · -- FT
      refine GC.seq ?_
      refine GC.region ?_
      refine GL.v Wfa ?_
      refine GL.v Wlb ?_
      refine GL.v Wfa ?_
      refine GL.v Wlb ?_
      refine GL.v Wfa ?_
      refine GL.v Wlb ?_
      refine GL.buildSlice rfl (by first | exact bsInt0 | exact bsInt1 _ | exact bsInt2 _ _ | exact bsInt3 _ _ _ | exact bsInt4 _ _ _ _ | exact bsInt5 _ _ _ _ _ | exact bsInt6 _ _ _ _ _ _ | exact bsInt7 _ _ _ _ _ _ _ | exact bsInt8 _ _ _ _ _ _ _ _ | exact bsInt9 _ _ _ _ _ _ _ _ _ | exact bsInt10 _ _ _ _ _ _ _ _ _ _ | exact bsPart0 | exact bsPart1 ⟨_, _, _, _, _⟩ | exact bsNode1 ⟨_, _, _, _⟩ | exact bsPtr3 _ _ _ | exact bsSl0 | exact bsSl1 ⟨_, _, _⟩) rfl (by decide) rfl ?_; intro g21
      refine GL.v Wag ?_
      refine GL.nil ?_
      refine GE.seq ?_
      refine GC.ret ?_
      refine GE.block_ret ?_
      refine GE.seq_ret ?_
      -- returns, path FT
      refine GE.ret_tmp (L' := row intE (some ⟨g21, 0, none⟩) 3 [p.a, p.b, p.c] :: L) (.inl rfl) rfl rfl Wsb ?_
      rw [belowL_ar3 h2]; exact ⟨_, _, rfl, rfl⟩
    · -- FF
      refine GC.skip ?_
      refine GE.block ?_
      refine GE.seq ?_
      refine GC.seq ?_
      refine GC.region ?_
      refine GL.buildSlice rfl (by first | exact bsInt0 | exact bsInt1 _ | exact bsInt2 _ _ | exact bsInt3 _ _ _ | exact bsInt4 _ _ _ _ | exact bsInt5 _ _ _ _ _ | exact bsInt6 _ _ _ _ _ _ | exact bsInt7 _ _ _ _ _ _ _ | exact bsInt8 _ _ _ _ _ _ _ _ | exact bsInt9 _ _ _ _ _ _ _ _ _ | exact bsInt10 _ _ _ _ _ _ _ _ _ _ | exact bsPart0 | exact bsPart1 ⟨_, _, _, _, _⟩ | exact bsNode1 ⟨_, _, _, _⟩ | exact bsPtr3 _ _ _ | exact bsSl0 | exact bsSl1 ⟨_, _, _⟩) rfl (by decide) rfl ?_; intro g22
      refine GL.v Wag ?_
      refine GL.nil ?_
      refine GE.seq ?_
      refine GC.ret ?_
      -- returns, path FF
      refine GE.ret_tmp (L' := row intE (some ⟨g22, 0, none⟩) 0 [] :: L) (.inl rfl) rfl rfl Wsb ?_
      rw [belowL_ar0 h1 h2]; exact ⟨_, _, rfl, rfl⟩
end SG

/- Contracts: ValidFormula of the program. -/
namespace SG
open Go Go.RowKit Go.Proofs
set_option linter.unusedVariables false
set_option linter.unusedSimpArgs false
set_option maxRecDepth 100000

theorem ValidFormula_spec (w0 : World) (L : List Asn) (A : Option Addr) (c : Nat) (ps : List Part) (hR : Rd w0 L partE A c ps) : Tr Try.prog 87 #[.agg #[.slice A ps.length c]] w0 L (fun v L' => v = .bool (validF ps) ∧ L' = L) := by
  refine Tr.enter (args := [.agg #[.slice A ps.length c]]) Try.func87 Try.ntmps87 rfl rfl ?_
  refine GC.seq ?_
  refine GC.region ?_
  refine GL.box_agg rfl rfl ?_; intro g1
  refine GL.v Wag ?_
  refine GL.nil ?_
  refine GE.seq ?_
  refine GC.seq ?_
  refine GC.seq ?_
  refine GC.region ?_
  refine GL.v Wfa ?_
  refine GL.v Wlb ?_
  refine GL.v Wln ?_
  refine GL.callF rfl rfl (in_spec _ _ _ _ _) ?_
  refine GL.v Wnt ?_
  refine GL.nil ?_
  refine GE.seq ?_
  refine GC.ifs (fun h1 => ?_) (fun h1 => ?_)
  · -- T
    refine GC.seq ?_
    refine GC.region ?_
    refine GL.v Wag ?_
    refine GL.nil ?_
    refine GE.seq ?_
    refine GC.ret ?_
    refine GE.seq_ret ?_
    -- returns, path T
    refine GE.ret_tmp (L' := L) (.inl rfl) rfl rfl Wsb ?_
    exact ⟨by rw [validF_not.2 (fun hv => inB_not.1 h1 ⟨by have := hv.1; omega, by have := hv.2.1; omega⟩)], rfl⟩
  · -- F
    have hl := inB_iff.1 h1
    refine GC.skip ?_
    refine GE.seq ?_
    refine GC.seq ?_
    refine GC.region ?_
    refine GL.v Wfa ?_
    refine GL.v Wlb ?_
    refine GL.v Wln ?_
    refine GL.make rfl rfl Wik Wik (by omega) (by omega) rfl ?_; intro g18
    refine GL.v Wag ?_
    refine GL.nil ?_
    refine GE.seq ?_
    refine GC.seq ?_
    refine GC.seq ?_
    refine GC.region ?_
    refine GL.v Wfa ?_
    refine GL.v Wlb ?_
    refine GL.v Wln ?_
    refine GL.v Wmv ?_
    refine GL.nil ?_
    refine GE.seq ?_
    refine GC.block ?_
    -- loop 1: carried slots [22]
    rw [← usedL_nil]
    refine GC.loopK (α := Nat × List Int) (fun x => x.1 ≤ ps.length ∧ x.2 = (ps.take x.1).flatMap belowL ∧ ∀ i' (h : i' < x.1) (h' : i' < ps.length), GoodAt ps[i'] i') (fun x => [(22, .int .i64 x.1)]) [(3, _), (20, _), (21, _)] (fun x => row intE (some ⟨g18, 0, none⟩) ps.length (usedL ps.length x.2) :: L) (fun x => ps.length - x.1) (0, []) Wkp Wsb ⟨Nat.zero_le _, rfl, fun _ h => by omega⟩ ?_
    rintro ⟨i, ks⟩ ⟨hi, hks, hgood⟩
    dsimp only at hi hks hgood ⊢
    refine GC.seq ?_
    refine GC.region ?_
    refine GL.v Wls ?_
    refine GL.nil ?_
    refine GE.seq ?_
    refine GC.seq ?_
    refine GC.ifs (fun h2 => ?_) (fun h2 => ?_)
    · -- FT
      have hlt : i < ps.length := by omega
      have hkl : ks.length ≤ 36 := by have := flatMap_below_length (ps.take i); rw [← hks] at this; simp only [List.length_take] at this; omega
      refine GC.skip ?_
      refine GE.seq ?_
      refine GC.seq ?_
      refine GC.block ?_
      refine GC.seq ?_
      refine GC.region ?_
      refine GL.v Wmv ?_
      refine GL.v Wix ?_
      refine GL.v Wle ?_
      refine GL.alloc rfl ?_; intro g5
      refine GL.v Wag ?_
      refine GL.store_varN rfl rfl rfl Wpk (by rfl) (by rfl) (by rfl) ?_
      refine GL.nil ?_
      refine GE.seq ?_
      refine GC.seq ?_
      refine GC.seq ?_
      refine GC.region ?_
      refine GL.v Wlba ?_
      refine GL.callF rfl rfl (alone_spec _ _ _) ?_
      refine GL.v Wnt ?_
      refine GL.nil ?_
      refine GE.seq ?_
      refine GC.ifs (fun h3 => ?_) (fun h3 => ?_)
      · -- FTT
        refine GC.seq ?_
        refine GC.region ?_
        refine GL.v Wag ?_
        refine GL.nil ?_
        refine GE.seq ?_
        refine GC.ret ?_
        refine GE.seq_ret ?_
        refine GE.block_ret ?_
        refine GE.seq_ret ?_
        refine GE.loop_ret ?_
        refine GE.block_ret ?_
        refine GE.seq_ret ?_
        -- returns, path FTT
        refine GE.ret_tmp (L' := L) (.inl rfl) rfl rfl Wsb ?_
        exact ⟨by rw [validF_not.2 (fun hv => by have := (hv.2.2.1 i hlt).1; simp_all)], rfl⟩
      · -- FTF
        refine GC.skip ?_
        refine GE.seq ?_
        refine GC.seq ?_
        refine GC.region ?_
        refine GL.v Wlba ?_
        refine GL.call rfl rfl (below_spec _ _ _) ?_; rintro _ _ ⟨A31, c31, rfl, rfl⟩
        refine GL.v Wln ?_
        refine GL.v Wmv ?_
        refine GL.nil ?_
        refine GE.seq ?_
        refine GC.block ?_
        -- loop 2: carried slots [33]
        refine GC.loopK (α := Nat × List Int) (fun x => x.1 ≤ (belowL ps[i]).length ∧ x.2 = ks ++ (belowL ps[i]).take x.1 ∧ ∀ k ∈ (belowL ps[i]).take x.1, 0 ≤ k ∧ k < i) (fun x => [(33, .int .i64 x.1)]) [(3, _), (4, _), (20, _), (21, _), (22, _), (31, _), (32, _)] (fun x => row intE (some ⟨g18, 0, none⟩) ps.length (usedL ps.length x.2) :: row intE A31 c31 (belowL ps[i]) :: L) (fun x => (belowL ps[i]).length - x.1) (0, ks) Wkp Wsb ⟨Nat.zero_le _, by simp, by simp⟩ ?_
        rintro ⟨j, ls⟩ ⟨hj, hls, hall⟩
        dsimp only at hj hls hall ⊢
        refine GC.seq ?_
        refine GC.region ?_
        refine GL.v Wls ?_
        refine GL.nil ?_
        refine GE.seq ?_
        refine GC.seq ?_
        refine GC.ifs (fun h4 => ?_) (fun h4 => ?_)
        · -- FTFT
          have hjl : j < (belowL ps[i]).length := by omega
          have hb3 := belowL_short ps[i]
          have hll : ls.length ≤ 39 := by rw [hls]; simp only [List.length_append, List.length_take]; omega
          refine GC.skip ?_
          refine GE.seq ?_
          refine GC.seq ?_
          refine GC.block ?_
          refine GC.seq ?_
          refine GC.region ?_
          refine GL.v Wix ?_
          refine GL.v Wle ?_
          refine GL.v Wag ?_
          refine GL.nil ?_
          refine GE.seq ?_
          refine GC.seq ?_
          refine GC.seq ?_
          refine GC.region ?_
          refine GL.v Wmv ?_
          refine GL.v Wmv ?_
          refine GL.v Wsu ?_
          refine GL.callF rfl rfl (in_spec _ _ _ _ _) ?_
          refine GL.v Wnt ?_
          refine GL.nil ?_
          refine GE.seq ?_
          refine GC.ifs (fun h5 => ?_) (fun h5 => ?_)
          · -- FTFTT
            refine GC.seq ?_
            refine GC.region ?_
            refine GL.v Wag ?_
            refine GL.nil ?_
            refine GE.seq ?_
            refine GC.ret ?_
            refine GE.seq_ret ?_
            refine GE.block_ret ?_
            refine GE.seq_ret ?_
            refine GE.loop_ret ?_
            refine GE.block_ret ?_
            refine GE.block_ret ?_
            refine GE.seq_ret ?_
            refine GE.loop_ret ?_
            refine GE.block_ret ?_
            refine GE.seq_ret ?_
            -- returns, path FTFTT
            refine GE.ret_tmp (L' := L) (.inl rfl) rfl rfl Wsb ?_
            exact ⟨by rw [validF_not.2 (fun hv => inB_not.1 h5 (by have := (hv.2.2.1 i hlt).2 _ (List.getElem_mem hjl); omega))], rfl⟩
          · -- FTFTF
            have hk := inB_iff.1 h5
            have hub := usedL_bound ps.length ls ((belowL ps[i])[j]).toNat (by simp; omega)
            refine GC.skip ?_
            refine GE.seq ?_
            refine GC.region ?_
            refine GL.v Wmv ?_
            refine GL.v Wmv ?_
            refine GL.v Wix ?_
            refine GL.v Wle ?_
            refine GL.v Wad ?_
            refine GL.v Wix ?_
            refine GL.store_el rfl rfl Wpk rfl rfl rfl (by first | omega | (simp; done) | (simp; omega)) ?_
            refine GL.nil ?_
            refine GE.block ?_
            refine GE.seq ?_
            refine GC.region ?_
            refine GL.v Wad ?_
            refine GL.v Wmv ?_
            refine GL.nil ?_
            -- round of loop 2, path FTFTF
            rw [usedL_snocI _ _ _ (by omega) _]
            refine GE.round (j + 1, ls ++ [(belowL ps[i])[j]]) ⟨by dsimp only; omega, ?_, ?_⟩ (by dsimp only; omega) Wkp Wsb
            · dsimp only; rw [List.take_succ_eq_append_getElem hjl, hls]; simp
            · dsimp only; rw [List.take_succ_eq_append_getElem hjl]
              intro k hk'
              rcases List.mem_append.1 hk' with hk' | hk'
              · exact hall k hk'
              · simp only [List.mem_singleton] at hk'; subst hk'; omega
        · -- FTFF
          have hje : j = (belowL ps[i]).length := by omega
          subst hje
          rw [List.take_length] at hls hall
          refine GC.exit ?_
          refine GE.seq_exit ?_
          refine GE.loop_exit ?_
          refine GE.block_exit ?_
          refine GE.block ?_
          refine GE.seq ?_
          refine GC.region ?_
          refine GL.v Wad ?_
          refine GL.v Wmv ?_
          refine GL.nil ?_
          -- round of loop 1, path FTFF
          refine GE.round (i + 1, ls) ⟨by dsimp only; omega, ?_, ?_⟩ (by dsimp only; omega) Wkp Wsb
          · dsimp only; rw [take_succ_flatMap _ _ _ hlt, hls, hks]
          · dsimp only
            intro i' h h'
            by_cases e : i' = i
            · subst e; exact ⟨h3, hall⟩
            · exact hgood i' (by omega) h'
    · -- FF
      have hie : i = ps.length := by omega
      subst hie
      rw [List.take_length] at hks
      subst hks
      refine GC.exit ?_
      refine GE.seq_exit ?_
      refine GE.loop_exit ?_
      refine GE.block_exit ?_
      refine GE.seq ?_
      refine GC.seq ?_
      refine GC.seq ?_
      refine GC.region ?_
      refine GL.v Wmv ?_
      refine GL.v Wmv ?_
      refine GL.v Wln ?_
      refine GL.v Wsu ?_
      refine GL.v (by exact EvP.r (Ev.cut_to rfl rfl Wik (by omega))) ?_
      refine GL.v Wln ?_
      refine GL.v Wmv ?_
      refine GL.nil ?_
      refine GE.seq ?_
      refine GC.block ?_
      -- loop 3: carried slots [56]
      refine GC.loopK (α := Nat) (fun j => j ≤ ps.length - 1 ∧ ∀ j' : Nat, j' < j → (ps.flatMap belowL).count (j' : Int) = 1) (fun j => [(56, .int .i64 j)]) [(54, _), (55, _)] (fun j => row intE (some ⟨g18, 0, none⟩) ps.length (usedL ps.length (ps.flatMap belowL)) :: L) (fun j => ps.length - j) 0 Wkp Wsb ⟨Nat.zero_le _, fun _ h => by omega⟩ ?_
      rintro j ⟨hj, hone⟩
      refine GC.seq ?_
      refine GC.region ?_
      refine GL.v Wls ?_
      refine GL.nil ?_
      refine GE.seq ?_
      refine GC.seq ?_
      refine GC.ifs (fun h3 => ?_) (fun h3 => ?_)
      · -- FFT
        have hjl : j < ps.length - 1 := by omega
        have hg := usedL_get ps.length (ps.flatMap belowL) j (by simp; omega)
        refine GC.skip ?_
        refine GE.seq ?_
        refine GC.seq ?_
        refine GC.block ?_
        refine GC.seq ?_
        refine GC.region ?_
        refine GL.v Wix ?_
        refine GL.v Wle ?_
        refine GL.v Wag ?_
        refine GL.nil ?_
        refine GE.seq ?_
        refine GC.seq ?_
        refine GC.region ?_
        refine GL.v Wmv ?_
        refine GL.v Wnq ?_
        refine GL.nil ?_
        refine GE.seq ?_
        refine GC.ifs (fun h4 => ?_) (fun h4 => ?_)
        · -- FFTT
          refine GC.seq ?_
          refine GC.region ?_
          refine GL.v Wag ?_
          refine GL.nil ?_
          refine GE.seq ?_
          refine GC.ret ?_
          refine GE.block_ret ?_
          refine GE.seq_ret ?_
          refine GE.loop_ret ?_
          refine GE.block_ret ?_
          refine GE.seq_ret ?_
          -- returns, path FFTT
          refine GE.ret_tmp (L' := L) (.inl rfl) rfl rfl Wsb ?_
          exact ⟨by rw [validF_not.2 (fun hv => by have := hv.2.2.2 j (by omega); rw [hg] at h4; omega)], rfl⟩
        · -- FFTF
          refine GC.skip ?_
          refine GE.block ?_
          refine GE.seq ?_
          refine GC.region ?_
          refine GL.v Wad ?_
          refine GL.v Wmv ?_
          refine GL.nil ?_
          -- round of loop 3, path FFTF
          refine GE.round (j + 1) ⟨by omega, fun j' hj' => ?_⟩ (by omega) Wkp Wsb
          by_cases e : j' = j
          · subst e; rw [hg] at h4; omega
          · exact hone j' (by omega)
      · -- FFF
        refine GC.exit ?_
        refine GE.seq_exit ?_
        refine GE.loop_exit ?_
        refine GE.block_exit ?_
        refine GE.seq ?_
        refine GC.seq ?_
        refine GC.region ?_
        refine GL.v Wag ?_
        refine GL.nil ?_
        refine GE.seq ?_
        refine GC.ret ?_
        -- returns, path FFF
        refine GE.ret_tmp (L' := L) (.inl rfl) rfl rfl Wsb ?_
        exact ⟨by rw [validF_iff.2 ⟨by omega, by omega, fun i' h' => hgood i' h' h', fun j' hj' => hone j' (by omega)⟩], rfl⟩
end SG

/- Contracts: validFormula of the reference. -/
namespace SG
open Go Go.RowKit Go.Proofs
set_option linter.unusedVariables false
set_option linter.unusedSimpArgs false
set_option maxRecDepth 100000

theorem validFormula_spec (w0 : World) (L : List Asn) (A : Option Addr) (c : Nat) (ps : List Part) (hR : Rd w0 L partE A c ps) (hc : ps.length ≤ 1100000) : Tr Try.prog 100 #[.agg #[.slice A ps.length c]] w0 L (fun v L' => v = .bool (validF ps) ∧ L' = L) := by
  refine Tr.enter (args := [.agg #[.slice A ps.length c]]) Try.func100 Try.ntmps100 rfl rfl ?_
  refine GC.seq ?_
  refine GC.region ?_
  refine GL.box_agg rfl rfl ?_; intro g1
  refine GL.v Wag ?_
  refine GL.nil ?_
  refine GE.seq ?_
  refine GC.seq ?_
  refine GC.region ?_
  refine GL.v Wfa ?_
  refine GL.v Wlb ?_
  refine GL.v Wln ?_
  refine GL.make rfl rfl Wik Wik (by omega) (by omega) rfl ?_; intro g11
  refine GL.v Wag ?_
  refine GL.nil ?_
  refine GE.seq ?_
  refine GC.seq ?_
  refine GC.seq ?_
  refine GC.region ?_
  refine GL.v Wag ?_
  refine GL.nil ?_
  refine GE.seq ?_
  refine GC.block ?_
  -- loop 1: carried slots [4]
  rw [← usedL_nil]
  refine GC.loopK (α := Nat × List Int) (fun x => x.1 ≤ ps.length ∧ x.2 = (ps.take x.1).flatMap belowL ∧ ∀ i' (h : i' < x.1) (h' : i' < ps.length), GoodAt ps[i'] i') (fun x => [(4, .int .i64 x.1)]) [(1, _), (3, _)] (fun x => row intE (some ⟨g11, 0, none⟩) ps.length (usedL ps.length x.2) :: blk g1 69 [.slice A ps.length c] :: L) (fun x => ps.length - x.1) (0, []) Wkp Wsb ⟨Nat.zero_le _, rfl, fun _ h => by omega⟩ ?_
  rintro ⟨i, ks⟩ ⟨hi, hks, hgood⟩
  dsimp only at hi hks hgood ⊢
  refine GC.seq ?_
  refine GC.seq ?_
  refine GC.region ?_
  refine GL.v Wmv ?_
  refine GL.v Wfa ?_
  refine GL.v Wlb ?_
  refine GL.v Wln ?_
  refine GL.v Wls ?_
  refine GL.nil ?_
  refine GE.seq ?_
  refine GC.ifs (fun h1 => ?_) (fun h1 => ?_)
  · -- T
    have hlt : i < ps.length := by omega
    have hkl : ks.length ≤ 3300000 := by have := flatMap_below_length (ps.take i); rw [← hks] at this; simp only [List.length_take] at this; omega
    refine GC.skip ?_
    refine GE.seq ?_
    refine GC.seq ?_
    refine GC.block ?_
    refine GC.seq ?_
    refine GC.seq ?_
    refine GC.region ?_
    refine GL.v Wfa ?_
    refine GL.v Wlb ?_
    refine GL.v Wmv ?_
    refine GL.v Wix ?_
    refine GL.v Wle ?_
    refine GL.v Wmv ?_
    refine GL.callF rfl rfl (goodPart_spec _ _ _ _ (by omega) (by omega)) ?_
    refine GL.v Wnt ?_
    refine GL.nil ?_
    refine GE.seq ?_
    refine GC.ifs (fun h2 => ?_) (fun h2 => ?_)
    · -- TT
      refine GC.seq ?_
      refine GC.region ?_
      refine GL.v Wag ?_
      refine GL.nil ?_
      refine GE.seq ?_
      refine GC.ret ?_
      refine GE.seq_ret ?_
      refine GE.block_ret ?_
      refine GE.seq_ret ?_
      refine GE.loop_ret ?_
      refine GE.block_ret ?_
      refine GE.seq_ret ?_
      -- returns, path TT
      refine GE.ret_tmp (L' := L) (.inl rfl) rfl rfl Wsb ?_
      exact ⟨by rw [validF_not.2 (fun hv => by have := goodB_iff.2 (hv.2.2.1 i hlt); simp_all)], rfl⟩
    · -- TF
      have hg := goodB_iff.1 h2
      refine GC.skip ?_
      refine GE.seq ?_
      refine GC.seq ?_
      refine GC.region ?_
      refine GL.v Wfa ?_
      refine GL.v Wlb ?_
      refine GL.v Wmv ?_
      refine GL.v Wix ?_
      refine GL.v Wle ?_
      refine GL.call rfl rfl (sbelow_spec _ _ _) ?_; rintro _ _ ⟨A32, c32, rfl, rfl⟩
      refine GL.v Wag ?_
      refine GL.nil ?_
      refine GE.seq ?_
      refine GC.seq ?_
      refine GC.region ?_
      refine GL.v Wag ?_
      refine GL.nil ?_
      refine GE.seq ?_
      refine GC.block ?_
      -- loop 2: carried slots [6]
      refine GC.loopK (α := Nat × List Int) (fun x => x.1 ≤ (belowL ps[i]).length ∧ x.2 = ks ++ (belowL ps[i]).take x.1) (fun x => [(6, .int .i64 x.1)]) [(1, _), (3, _), (4, _), (5, _)] (fun x => row intE (some ⟨g11, 0, none⟩) ps.length (usedL ps.length x.2) :: row intE A32 c32 (belowL ps[i]) :: blk g1 69 [.slice A ps.length c] :: L) (fun x => (belowL ps[i]).length - x.1) (0, ks) Wkp Wsb ⟨Nat.zero_le _, by simp⟩ ?_
      rintro ⟨j, ls⟩ ⟨hj, hls⟩
      dsimp only at hj hls ⊢
      refine GC.seq ?_
      refine GC.seq ?_
      refine GC.region ?_
      refine GL.v Wmv ?_
      refine GL.v Wmv ?_
      refine GL.v Wln ?_
      refine GL.v Wls ?_
      refine GL.nil ?_
      refine GE.seq ?_
      refine GC.ifs (fun h3 => ?_) (fun h3 => ?_)
      · -- TFT
        have hjl : j < (belowL ps[i]).length := by omega
        have hb3 := belowL_short ps[i]
        have hll : ls.length ≤ 3300003 := by rw [hls]; simp only [List.length_append, List.length_take]; omega
        have hk := hg.2 _ (List.getElem_mem hjl)
        have hub := usedL_bound ps.length ls ((belowL ps[i])[j]).toNat (by simp; omega)
        refine GC.skip ?_
        refine GE.seq ?_
        refine GC.seq ?_
        refine GC.block ?_
        refine GC.region_tail 14 mixed (by kernel_rfl) ?_
        refine GS.val (by exact EvP.r (Ev.move rfl)) rfl rfl ?_
        refine GS.val (by exact EvP.r (Ev.move rfl)) rfl rfl ?_
        refine GS.val (by exact EvP.r (Ev.move rfl)) rfl rfl ?_
        refine GS.val (by exact Wix) rfl rfl ?_
        refine GS.val (by exact Wle) rfl rfl ?_
        refine GS.val (by exact EvP.r (Ev.move rfl)) rfl rfl ?_
        refine GS.val (by exact EvP.r (Ev.move rfl)) rfl rfl ?_
        refine GS.val (by exact EvP.r (Ev.move rfl)) rfl rfl ?_
        refine GS.val (by exact Wix) rfl rfl ?_
        refine GS.val (by exact Wle) rfl rfl ?_
        refine GS.val (by exact Wix) rfl rfl ?_
        refine GS.val (by exact Wle) rfl rfl ?_
        refine GS.val (by exact EvP.r (Ev.add rfl rfl (by omega))) rfl rfl ?_
        refine GS.val (by exact Wix) rfl rfl ?_
        refine GS.nil ?_
        refine GL.store_el rfl rfl Wpk rfl rfl rfl (by first | omega | (simp; done) | (simp; omega)) ?_
        refine GL.nil ?_
        refine GE.block ?_
        refine GE.seq ?_
        refine GC.region ?_
        refine GL.v Wmv ?_
        refine GL.v Wad ?_
        refine GL.v Wag ?_
        refine GL.nil ?_
        -- round of loop 2, path TFT
        rw [usedL_snocI _ _ _ (by omega) _]
        refine GE.round (j + 1, ls ++ [(belowL ps[i])[j]]) ⟨by dsimp only; omega, ?_⟩ (by dsimp only; omega) Wkp Wsb
        dsimp only; rw [List.take_succ_eq_append_getElem hjl, hls]; simp
      · -- TFF
        have hje : j = (belowL ps[i]).length := by omega
        subst hje
        rw [List.take_length] at hls
        refine GC.exit ?_
        refine GE.seq_exit ?_
        refine GE.loop_exit ?_
        refine GE.block_exit ?_
        refine GE.block ?_
        refine GE.seq ?_
        refine GC.region ?_
        refine GL.v Wmv ?_
        refine GL.v Wad ?_
        refine GL.v Wag ?_
        refine GL.nil ?_
        -- round of loop 1, path TFF
        refine GE.round (i + 1, ls) ⟨by dsimp only; omega, ?_, ?_⟩ (by dsimp only; omega) Wkp Wsb
        · dsimp only; rw [take_succ_flatMap _ _ _ hlt, hls, hks]
        · dsimp only
          intro i' h h'
          by_cases e : i' = i
          · subst e; exact hg
          · exact hgood i' (by omega) h'
  · -- F
    have hie : i = ps.length := by omega
    subst hie
    rw [List.take_length] at hks
    subst hks
    refine GC.exit ?_
    refine GE.seq_exit ?_
    refine GE.loop_exit ?_
    refine GE.block_exit ?_
    refine GE.seq ?_
    refine GC.seq ?_
    refine GC.seq ?_
    refine GC.region ?_
    refine GL.v Wag ?_
    refine GL.nil ?_
    refine GE.seq ?_
    refine GC.block ?_
    -- loop 3: carried slots [7]
    refine GC.loopK (α := Nat) (fun j => j ≤ ps.length ∧ ∀ j' : Nat, j' < j → j' + 1 < ps.length → (ps.flatMap belowL).count (j' : Int) = 1) (fun j => [(7, .int .i64 j)]) [(1, _), (3, _)] (fun j => row intE (some ⟨g11, 0, none⟩) ps.length (usedL ps.length (ps.flatMap belowL)) :: blk g1 69 [.slice A ps.length c] :: L) (fun j => ps.length - j) 0 Wkp Wsb ⟨Nat.zero_le _, fun _ h => by omega⟩ ?_
    rintro j ⟨hj, hone⟩
    refine GC.seq ?_
    refine GC.seq ?_
    refine GC.region ?_
    refine GL.v Wmv ?_
    refine GL.v Wad ?_
    refine GL.v Wmv ?_
    refine GL.v Wln ?_
    refine GL.v Wls ?_
    refine GL.nil ?_
    refine GE.seq ?_
    refine GC.ifs (fun h2 => ?_) (fun h2 => ?_)
    · -- FT
      have hjl : j + 1 < ps.length := by omega
      have hg := usedL_get ps.length (ps.flatMap belowL) j (by simp; omega)
      refine GC.skip ?_
      refine GE.seq ?_
      refine GC.seq ?_
      refine GC.block ?_
      refine GC.seq ?_
      refine GC.region ?_
      refine GL.v Wmv ?_
      refine GL.v Wmv ?_
      refine GL.v Wix ?_
      refine GL.v Wle ?_
      refine GL.v Wnq ?_
      refine GL.nil ?_
      refine GE.seq ?_
      refine GC.ifs (fun h3 => ?_) (fun h3 => ?_)
      · -- FTT
        refine GC.seq ?_
        refine GC.region ?_
        refine GL.v Wag ?_
        refine GL.nil ?_
        refine GE.seq ?_
        refine GC.ret ?_
        refine GE.block_ret ?_
        refine GE.seq_ret ?_
        refine GE.loop_ret ?_
        refine GE.block_ret ?_
        refine GE.seq_ret ?_
        -- returns, path FTT
        refine GE.ret_tmp (L' := L) (.inl rfl) rfl rfl Wsb ?_
        exact ⟨by rw [validF_not.2 (fun hv => by have := hv.2.2.2 j (by omega); rw [hg] at h3; omega)], rfl⟩
      · -- FTF
        refine GC.skip ?_
        refine GE.block ?_
        refine GE.seq ?_
        refine GC.region ?_
        refine GL.v Wmv ?_
        refine GL.v Wad ?_
        refine GL.v Wag ?_
        refine GL.nil ?_
        -- round of loop 3, path FTF
        refine GE.round (j + 1) ⟨by omega, fun j' hj' hj2 => ?_⟩ (by omega) Wkp Wsb
        by_cases e : j' = j
        · subst e; rw [hg] at h3; omega
        · exact hone j' (by omega) hj2
    · -- FF
      refine GC.exit ?_
      refine GE.seq_exit ?_
      refine GE.loop_exit ?_
      refine GE.block_exit ?_
      refine GE.seq ?_
      refine GC.seq ?_
      refine GC.region ?_
      refine GL.v Wfa ?_
      refine GL.v Wlb ?_
      refine GL.v Wln ?_
      refine GL.callF rfl rfl (inRange_spec _ _ _ _ _) ?_
      refine GL.v Wag ?_
      refine GL.nil ?_
      refine GE.seq ?_
      refine GC.ret ?_
      -- returns, path FF
      refine GE.ret_tmp (L' := L) (.inl rfl) rfl rfl Wsb ?_
      refine ⟨?_, rfl⟩
      cases hb : inB (ps.length : Int) 1 12 with
      | false => rw [validF_not.2 (fun hv => inB_not.1 hb ⟨by have := hv.1; omega, by have := hv.2.1; omega⟩)]
      | true =>
        have := inB_iff.1 hb
        rw [validF_iff.2 ⟨by omega, by omega, fun i' h' => hgood i' h' h', fun j' hj' => hone j' (by omega) hj'⟩]
end SG
