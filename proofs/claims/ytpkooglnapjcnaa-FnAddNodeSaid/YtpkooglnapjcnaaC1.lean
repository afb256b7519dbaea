/- Contracts: the small functions on parts. -/
import Derived.Test.YtpkooglnapjcnaaTy
namespace SG
open Go Go.RowKit Go.Proofs
set_option linter.unusedVariables false
set_option linter.unusedSimpArgs false
set_option maxRecDepth 100000

theorem in_spec (w0 : World) (L : List Asn) (n lo hi : Int) : Tr Try.prog 63 #[.int .i64 n, .int .i64 lo, .int .i64 hi] w0 L (fun v L' => v = .bool (inB n lo hi) ∧ L' = L) := by
  refine Tr.enter (args := [.int .i64 n, .int .i64 lo, .int .i64 hi]) Try.func63 Try.ntmps63 rfl rfl ?_
  refine GC.seq ?_
  refine GC.region ?_
  refine GL.v Wag ?_
  refine GL.nil ?_
  refine GE.seq ?_
  refine GC.seq ?_
  refine GC.region ?_
  refine GL.v Wmv ?_
  refine GL.v Wmv ?_
  refine GL.v Wgq ?_
  refine GL.v Wmv ?_
  refine GL.gs (fun h1 => ?_) (fun h1 => ?_)
  · -- t
    refine GL.want rfl rfl ?_
    refine GL.v Wmv ?_
    refine GL.want rfl rfl ?_
    refine GL.v Wmv ?_
    refine GL.want rfl rfl ?_
    refine GL.v Wlq ?_
    refine GL.v Wpt ?_
    refine GL.v Wag ?_
    refine GL.nil ?_
    refine GE.seq ?_
    refine GC.ret ?_
    -- returns, path t
    refine GE.ret_tmp (L' := L) (.inl rfl) rfl rfl Wsb ?_
    exact ⟨by simp [inB, *], rfl⟩
  · -- f
    refine GL.unwant rfl rfl rfl rfl ?_
    refine GL.unwant rfl rfl rfl rfl ?_
    refine GL.unwant rfl rfl rfl rfl ?_
    refine GL.v Wpf ?_
    refine GL.v Wag ?_
    refine GL.nil ?_
    refine GE.seq ?_
    refine GC.ret ?_
    -- returns, path f
    refine GE.ret_tmp (L' := L) (.inl rfl) rfl rfl Wsb ?_
    exact ⟨by simp [inB, *], rfl⟩
theorem inRange_spec (w0 : World) (L : List Asn) (n lo hi : Int) : Tr Try.prog 68 #[.int .i64 n, .int .i64 lo, .int .i64 hi] w0 L (fun v L' => v = .bool (inB n lo hi) ∧ L' = L) := by
  refine Tr.enter (args := [.int .i64 n, .int .i64 lo, .int .i64 hi]) Try.func68 Try.ntmps68 rfl rfl ?_
  refine GC.seq ?_
  refine GC.region ?_
  refine GL.v Wag ?_
  refine GL.nil ?_
  refine GE.seq ?_
  refine GC.seq ?_
  refine GC.region ?_
  refine GL.v Wmv ?_
  refine GL.v Wmv ?_
  refine GL.v Wlq ?_
  refine GL.v Wmv ?_
  refine GL.gs (fun h1 => ?_) (fun h1 => ?_)
  · -- t
    refine GL.want rfl rfl ?_
    refine GL.v Wmv ?_
    refine GL.want rfl rfl ?_
    refine GL.v Wmv ?_
    refine GL.want rfl rfl ?_
    refine GL.v Wlq ?_
    refine GL.v Wpt ?_
    refine GL.v Wag ?_
    refine GL.nil ?_
    refine GE.seq ?_
    refine GC.ret ?_
    -- returns, path t
    refine GE.ret_tmp (L' := L) (.inl rfl) rfl rfl Wsb ?_
    exact ⟨by simp [inB, *], rfl⟩
  · -- f
    refine GL.unwant rfl rfl rfl rfl ?_
    refine GL.unwant rfl rfl rfl rfl ?_
    refine GL.unwant rfl rfl rfl rfl ?_
    refine GL.v Wpf ?_
    refine GL.v Wag ?_
    refine GL.nil ?_
    refine GE.seq ?_
    refine GC.ret ?_
    -- returns, path f
    refine GE.ret_tmp (L' := L) (.inl rfl) rfl rfl Wsb ?_
    exact ⟨by simp [inB, *], rfl⟩
theorem alone_spec (w0 : World) (L : List Asn) (p : Part) : Tr Try.prog 130 #[p.val] w0 L (fun v L' => v = .bool (aloneB p) ∧ L' = L) := by
  refine Tr.enter (args := [p.val]) Try.func130 Try.ntmps130 rfl rfl ?_
  refine GC.seq ?_
  refine GC.region ?_
  refine GL.box_agg rfl rfl ?_; intro g1
  refine GL.v Wag ?_
  refine GL.nil ?_
  refine GE.seq ?_
  refine GC.seq ?_
  refine GC.block ?_
  refine GC.seq ?_
  refine GC.region ?_
  refine GL.v Wfa ?_
  refine GL.v Wlb ?_
  refine GL.v Weq ?_
  refine GL.v Wag ?_
  refine GL.nil ?_
  refine GE.seq ?_
  refine GC.ifs (fun h1 => ?_) (fun h1 => ?_)
  · -- T
    refine GC.seq ?_
    refine GC.region ?_
    refine GL.v Wfa ?_
    refine GL.v Wlb ?_
    refine GL.callF rfl rfl (in_spec _ _ _ _ _) ?_
    refine GL.v Wmv ?_
    refine GL.gs (fun h2 => ?_) (fun h2 => ?_)
    · -- Tt
      refine GL.want rfl rfl ?_
      refine GL.v Wfa ?_
      refine GL.want rfl rfl ?_
      refine GL.v Wlb ?_
      refine GL.want rfl rfl ?_
      refine GL.v Weq ?_
      refine GL.v Wpt ?_
      refine GL.v Wmv ?_
      refine GL.gs (fun h3 => ?_) (fun h3 => ?_)
      · -- Ttt
        refine GL.want rfl rfl ?_
        refine GL.v Wfa ?_
        refine GL.want rfl rfl ?_
        refine GL.v Wlb ?_
        refine GL.want rfl rfl ?_
        refine GL.v Weq ?_
        refine GL.v Wpt ?_
        refine GL.v Wmv ?_
        refine GL.gs (fun h4 => ?_) (fun h4 => ?_)
        · -- Tttt
          refine GL.want rfl rfl ?_
          refine GL.v Wfa ?_
          refine GL.want rfl rfl ?_
          refine GL.v Wlb ?_
          refine GL.want rfl rfl ?_
          refine GL.v Weq ?_
          refine GL.v Wpt ?_
          refine GL.v Wag ?_
          refine GL.nil ?_
          refine GE.seq ?_
          refine GC.ret ?_
          refine GE.block_ret ?_
          refine GE.seq_ret ?_
          -- returns, path Tttt
          refine GE.ret_tmp (L' := L) (.inl rfl) rfl rfl Wsb ?_
          exact ⟨by simp [aloneB, *], rfl⟩
        · -- Tttf
          refine GL.unwant rfl rfl rfl rfl ?_
          refine GL.unwant rfl rfl rfl rfl ?_
          refine GL.unwant rfl rfl rfl rfl ?_
          refine GL.v Wpf ?_
          refine GL.v Wag ?_
          refine GL.nil ?_
          refine GE.seq ?_
          refine GC.ret ?_
          refine GE.block_ret ?_
          refine GE.seq_ret ?_
          -- returns, path Tttf
          refine GE.ret_tmp (L' := L) (.inl rfl) rfl rfl Wsb ?_
          exact ⟨by simp [aloneB, *], rfl⟩
      · -- Ttf
        refine GL.unwant rfl rfl rfl rfl ?_
        refine GL.unwant rfl rfl rfl rfl ?_
        refine GL.unwant rfl rfl rfl rfl ?_
        refine GL.v Wpf ?_
        refine GL.v Wmv ?_
        refine GL.unwant rfl rfl rfl rfl ?_
        refine GL.unwant rfl rfl rfl rfl ?_
        refine GL.unwant rfl rfl rfl rfl ?_
        refine GL.v Wpf ?_
        refine GL.v Wag ?_
        refine GL.nil ?_
        refine GE.seq ?_
        refine GC.ret ?_
        refine GE.block_ret ?_
        refine GE.seq_ret ?_
        -- returns, path Ttf
        refine GE.ret_tmp (L' := L) (.inl rfl) rfl rfl Wsb ?_
        exact ⟨by simp [aloneB, *], rfl⟩
    · -- Tf
      refine GL.unwant rfl rfl rfl rfl ?_
      refine GL.unwant rfl rfl rfl rfl ?_
      refine GL.unwant rfl rfl rfl rfl ?_
      refine GL.v Wpf ?_
      refine GL.v Wmv ?_
      refine GL.unwant rfl rfl rfl rfl ?_
      refine GL.unwant rfl rfl rfl rfl ?_
      refine GL.unwant rfl rfl rfl rfl ?_
      refine GL.v Wpf ?_
      refine GL.v Wmv ?_
      refine GL.unwant rfl rfl rfl rfl ?_
      refine GL.unwant rfl rfl rfl rfl ?_
      refine GL.unwant rfl rfl rfl rfl ?_
      refine GL.v Wpf ?_
      refine GL.v Wag ?_
      refine GL.nil ?_
      refine GE.seq ?_
      refine GC.ret ?_
      refine GE.block_ret ?_
      refine GE.seq_ret ?_
      -- returns, path Tf
      refine GE.ret_tmp (L' := L) (.inl rfl) rfl rfl Wsb ?_
      exact ⟨by simp [aloneB, *], rfl⟩
  · -- F
    refine GC.seq ?_
    refine GC.region ?_
    refine GL.v Wfa ?_
    refine GL.v Wlb ?_
    refine GL.v Weq ?_
    refine GL.v Wag ?_
    refine GL.nil ?_
    refine GE.seq ?_
    refine GC.ifs (fun h2 => ?_) (fun h2 => ?_)
    · -- FT
      refine GC.seq ?_
      refine GC.region ?_
      refine GL.v Wfa ?_
      refine GL.v Wlb ?_
      refine GL.callF rfl rfl (in_spec _ _ _ _ _) ?_
      refine GL.v Wmv ?_
      refine GL.gs (fun h3 => ?_) (fun h3 => ?_)
      · -- FTt
        refine GL.want rfl rfl ?_
        refine GL.v Wfa ?_
        refine GL.want rfl rfl ?_
        refine GL.v Wlb ?_
        refine GL.want rfl rfl ?_
        refine GL.v Weq ?_
        refine GL.v Wpt ?_
        refine GL.v Wmv ?_
        refine GL.gs (fun h4 => ?_) (fun h4 => ?_)
        · -- FTtt
          refine GL.want rfl rfl ?_
          refine GL.v Wfa ?_
          refine GL.want rfl rfl ?_
          refine GL.v Wlb ?_
          refine GL.want rfl rfl ?_
          refine GL.v Weq ?_
          refine GL.v Wpt ?_
          refine GL.v Wmv ?_
          refine GL.gs (fun h5 => ?_) (fun h5 => ?_)
          · -- FTttt
            refine GL.want rfl rfl ?_
            refine GL.v Wfa ?_
            refine GL.want rfl rfl ?_
            refine GL.v Wlb ?_
            refine GL.want rfl rfl ?_
            refine GL.v Weq ?_
            refine GL.v Wpt ?_
            refine GL.v Wag ?_
            refine GL.nil ?_
            refine GE.seq ?_
            refine GC.ret ?_
            refine GE.block_ret ?_
            refine GE.seq_ret ?_
            -- returns, path FTttt
            refine GE.ret_tmp (L' := L) (.inl rfl) rfl rfl Wsb ?_
            exact ⟨by simp [aloneB, *], rfl⟩
          · -- FTttf
            refine GL.unwant rfl rfl rfl rfl ?_
            refine GL.unwant rfl rfl rfl rfl ?_
            refine GL.unwant rfl rfl rfl rfl ?_
            refine GL.v Wpf ?_
            refine GL.v Wag ?_
            refine GL.nil ?_
            refine GE.seq ?_
            refine GC.ret ?_
            refine GE.block_ret ?_
            refine GE.seq_ret ?_
            -- returns, path FTttf
            refine GE.ret_tmp (L' := L) (.inl rfl) rfl rfl Wsb ?_
            exact ⟨by simp [aloneB, *], rfl⟩
        · -- FTtf
          refine GL.unwant rfl rfl rfl rfl ?_
          refine GL.unwant rfl rfl rfl rfl ?_
          refine GL.unwant rfl rfl rfl rfl ?_
          refine GL.v Wpf ?_
          refine GL.v Wmv ?_
          refine GL.unwant rfl rfl rfl rfl ?_
          refine GL.unwant rfl rfl rfl rfl ?_
          refine GL.unwant rfl rfl rfl rfl ?_
          refine GL.v Wpf ?_
          refine GL.v Wag ?_
          refine GL.nil ?_
          refine GE.seq ?_
          refine GC.ret ?_
          refine GE.block_ret ?_
          refine GE.seq_ret ?_
          -- returns, path FTtf
          refine GE.ret_tmp (L' := L) (.inl rfl) rfl rfl Wsb ?_
          exact ⟨by simp [aloneB, *], rfl⟩
      · -- FTf
        refine GL.unwant rfl rfl rfl rfl ?_
        refine GL.unwant rfl rfl rfl rfl ?_
        refine GL.unwant rfl rfl rfl rfl ?_
        refine GL.v Wpf ?_
        refine GL.v Wmv ?_
        refine GL.unwant rfl rfl rfl rfl ?_
        refine GL.unwant rfl rfl rfl rfl ?_
        refine GL.unwant rfl rfl rfl rfl ?_
        refine GL.v Wpf ?_
        refine GL.v Wmv ?_
        refine GL.unwant rfl rfl rfl rfl ?_
        refine GL.unwant rfl rfl rfl rfl ?_
        refine GL.unwant rfl rfl rfl rfl ?_
        refine GL.v Wpf ?_
        refine GL.v Wag ?_
        refine GL.nil ?_
        refine GE.seq ?_
        refine GC.ret ?_
        refine GE.block_ret ?_
        refine GE.seq_ret ?_
        -- returns, path FTf
        refine GE.ret_tmp (L' := L) (.inl rfl) rfl rfl Wsb ?_
        exact ⟨by simp [aloneB, *], rfl⟩
    · -- FF
      refine GC.seq ?_
      refine GC.region ?_
      refine GL.v Wfa ?_
      refine GL.v Wlb ?_
      refine GL.v Weq ?_
      refine GL.v Wag ?_
      refine GL.nil ?_
      refine GE.seq ?_
      refine GC.ifs (fun h3 => ?_) (fun h3 => ?_)
      · -- FFT
        refine GC.seq ?_
        refine GC.region ?_
        refine GL.v Wfa ?_
        refine GL.v Wlb ?_
        refine GL.v Weq ?_
        refine GL.v Wag ?_
        refine GL.nil ?_
        refine GE.seq ?_
        refine GC.ret ?_
        refine GE.block_ret ?_
        refine GE.seq_ret ?_
        -- returns, path FFT
        refine GE.ret_tmp (L' := L) (.inl rfl) rfl rfl Wsb ?_
        exact ⟨by simp [aloneB, *], rfl⟩
      · -- FFF
        refine GC.seq ?_
        refine GC.region ?_
        refine GL.v Wfa ?_
        refine GL.v Wlb ?_
        refine GL.callF rfl rfl (in_spec _ _ _ _ _) ?_
        refine GL.v Wag ?_
        refine GL.nil ?_
        refine GE.seq ?_
        refine GC.ifs (fun h4 => ?_) (fun h4 => ?_)
        · -- FFFT
          refine GC.seq ?_
          refine GC.region ?_
          refine GL.v Wfa ?_
          refine GL.v Wlb ?_
          refine GL.v Weq ?_
          refine GL.v Wmv ?_
          refine GL.gs (fun h5 => ?_) (fun h5 => ?_)
          · -- FFFTt
            refine GL.want rfl rfl ?_
            refine GL.v Wfa ?_
            refine GL.want rfl rfl ?_
            refine GL.v Wlb ?_
            refine GL.want rfl rfl ?_
            refine GL.v Weq ?_
            refine GL.v Wpt ?_
            refine GL.v Wag ?_
            refine GL.nil ?_
            refine GE.seq ?_
            refine GC.ret ?_
            refine GE.block_ret ?_
            refine GE.seq_ret ?_
            -- returns, path FFFTt
            refine GE.ret_tmp (L' := L) (.inl rfl) rfl rfl Wsb ?_
            exact ⟨by simp [aloneB, *], rfl⟩
          · -- FFFTf
            refine GL.unwant rfl rfl rfl rfl ?_
            refine GL.unwant rfl rfl rfl rfl ?_
            refine GL.unwant rfl rfl rfl rfl ?_
            refine GL.v Wpf ?_
            refine GL.v Wag ?_
            refine GL.nil ?_
            refine GE.seq ?_
            refine GC.ret ?_
            refine GE.block_ret ?_
            refine GE.seq_ret ?_
            -- returns, path FFFTf
            refine GE.ret_tmp (L' := L) (.inl rfl) rfl rfl Wsb ?_
            exact ⟨by simp [aloneB, *], rfl⟩
        · -- FFFF
          refine GC.skip ?_
          refine GE.block ?_
          refine GE.seq ?_
          refine GC.seq ?_
          refine GC.region ?_
          refine GL.v Wag ?_
          refine GL.nil ?_
          refine GE.seq ?_
          refine GC.ret ?_
          -- returns, path FFFF
          refine GE.ret_tmp (L' := L) (.inl rfl) rfl rfl Wsb ?_
          exact ⟨by simp [aloneB, *], rfl⟩
theorem below_spec (w0 : World) (L : List Asn) (p : Part) : Tr Try.prog 131 #[p.val] w0 L (fun v L' => ∃ A c, v = .slice A (belowL p).length c ∧ L' = row intE A c (belowL p) :: L) := by
  refine Tr.enter (args := [p.val]) Try.func131 Try.ntmps131 rfl rfl ?_
  refine GC.seq ?_
  refine GC.region ?_
  refine GL.box_agg rfl rfl ?_; intro g1
  refine GL.v Wag ?_
  refine GL.nil ?_
  refine GE.seq ?_
  refine GC.seq ?_
  refine GC.block ?_
  refine GC.seq ?_
  refine GC.region ?_
  refine GL.v Wfa ?_
  refine GL.v Wlb ?_
  refine GL.v Weq ?_
  refine GL.v Wag ?_
  refine GL.nil ?_
  refine GE.seq ?_
  refine GC.ifs (fun h1 => ?_) (fun h1 => ?_)
  · -- T
    refine GC.seq ?_
    refine GC.region ?_
    refine GL.v Wfa ?_
    refine GL.v Wlb ?_
    refine GL.v Wfa ?_
    refine GL.v Wlb ?_
    refine GL.v Wfa ?_
    refine GL.v Wlb ?_
    refine GL.buildSlice rfl (by first | exact bsInt0 | exact bsInt1 _ | exact bsInt2 _ _ | exact bsInt3 _ _ _ | exact bsInt4 _ _ _ _ | exact bsInt5 _ _ _ _ _ | exact bsInt6 _ _ _ _ _ _ | exact bsInt7 _ _ _ _ _ _ _ | exact bsInt8 _ _ _ _ _ _ _ _ | exact bsInt9 _ _ _ _ _ _ _ _ _ | exact bsInt10 _ _ _ _ _ _ _ _ _ _ | exact bsPart0 | exact bsPart1 ⟨_, _, _, _, _⟩ | exact bsNode1 ⟨_, _, _, _⟩ | exact bsPtr3 _ _ _ | exact bsSl0 | exact bsSl1 ⟨_, _, _⟩) rfl (by decide) rfl ?_; intro g13
    refine GL.v Wag ?_
    refine GL.nil ?_
    refine GE.seq ?_
    refine GC.ret ?_
    refine GE.block_ret ?_
    refine GE.seq_ret ?_
    -- returns, path T
    refine GE.ret_tmp (L' := row intE (some ⟨g13, 0, none⟩) 3 [p.a, p.b, p.c] :: L) (.inl rfl) rfl rfl Wsb ?_
    have e : belowL p = [p.a, p.b, p.c] := by simp [belowL, *]
    rw [e]; exact ⟨_, _, rfl, rfl⟩
  · -- F
    refine GC.seq ?_
    refine GC.region ?_
    refine GL.v Wfa ?_
    refine GL.v Wlb ?_
    refine GL.callF rfl rfl (in_spec _ _ _ _ _) ?_
    refine GL.v Wag ?_
    refine GL.nil ?_
    refine GE.seq ?_
    refine GC.ifs (fun h2 => ?_) (fun h2 => ?_)
    · -- FT
      refine GC.seq ?_
      refine GC.region ?_
      refine GL.v Wfa ?_
      refine GL.v Wlb ?_
      refine GL.v Wfa ?_
      refine GL.v Wlb ?_
      refine GL.buildSlice rfl (by first | exact bsInt0 | exact bsInt1 _ | exact bsInt2 _ _ | exact bsInt3 _ _ _ | exact bsInt4 _ _ _ _ | exact bsInt5 _ _ _ _ _ | exact bsInt6 _ _ _ _ _ _ | exact bsInt7 _ _ _ _ _ _ _ | exact bsInt8 _ _ _ _ _ _ _ _ | exact bsInt9 _ _ _ _ _ _ _ _ _ | exact bsInt10 _ _ _ _ _ _ _ _ _ _ | exact bsPart0 | exact bsPart1 ⟨_, _, _, _, _⟩ | exact bsNode1 ⟨_, _, _, _⟩ | exact bsPtr3 _ _ _ | exact bsSl0 | exact bsSl1 ⟨_, _, _⟩) rfl (by decide) rfl ?_; intro g22
      refine GL.v Wag ?_
      refine GL.nil ?_
      refine GE.seq ?_
      refine GC.ret ?_
      refine GE.block_ret ?_
      refine GE.seq_ret ?_
      -- returns, path FT
      refine GE.ret_tmp (L' := row intE (some ⟨g22, 0, none⟩) 2 [p.a, p.b] :: L) (.inl rfl) rfl rfl Wsb ?_
      have e : belowL p = [p.a, p.b] := by simp [belowL, *]
      rw [e]; exact ⟨_, _, rfl, rfl⟩
    · -- FF
      refine GC.skip ?_
      refine GE.block ?_
      refine GE.seq ?_
      refine GC.seq ?_
      refine GC.region ?_
      refine GL.v Wag ?_
      refine GL.nil ?_
      refine GE.seq ?_
      refine GC.ret ?_
      -- returns, path FF
      refine GE.state (fun _ hs => hs.empty intE none) ?_
      refine GE.ret_tmp (L' := row intE none 0 [] :: L) (.inl rfl) rfl rfl Wsb ?_
      have e : belowL p = [] := by simp [belowL, *]
      rw [e]; exact ⟨_, _, rfl, rfl⟩
theorem last_spec (w0 : World) (L : List Asn) (A : Option Addr) (n c : Nat) (hn : n ≤ 2000000) : Tr Try.prog 122 #[.agg #[.slice A n c]] w0 L (fun v L' => v = .int .i64 ((n : Int) - 1) ∧ L' = L) := by
  refine Tr.enter (args := [.agg #[.slice A n c]]) Try.func122 Try.ntmps122 rfl rfl ?_
  refine GC.seq ?_
  refine GC.region ?_
  refine GL.box_agg rfl rfl ?_; intro g1
  refine GL.v Wag ?_
  refine GL.nil ?_
  refine GE.seq ?_
  refine GC.seq ?_
  refine GC.region ?_
  refine GL.v Wfa ?_
  refine GL.v Wlb ?_
  refine GL.v Wln ?_
  refine GL.v Wsu ?_
  refine GL.v Wag ?_
  refine GL.nil ?_
  refine GE.seq ?_
  refine GC.ret ?_
  -- returns, path 
  refine GE.ret_tmp (L' := L) (.inl rfl) rfl rfl Wsb ?_
  exact ⟨rfl, rfl⟩

/-! the reference's -/
theorem arity_spec (w0 : World) (L : List Asn) (k : Int) : Tr Try.prog 156 #[.int .i64 k] w0 L (fun v L' => v = .int .i64 (arityI k) ∧ L' = L) := by
  refine Tr.enter (args := [.int .i64 k]) Try.func156 Try.ntmps156 rfl rfl ?_
  refine GC.seq ?_
  refine GC.region ?_
  refine GL.v Wag ?_
  refine GL.nil ?_
  refine GE.seq ?_
  refine GC.seq ?_
  refine GC.seq ?_
  refine GC.region ?_
  refine GL.v Wmv ?_
  refine GL.nil ?_
  refine GE.seq ?_
  refine GC.block ?_
  refine GC.seq ?_
  refine GC.seq ?_
  refine GC.region ?_
  refine GL.v Weq ?_
  refine GL.v Wag ?_
  refine GL.nil ?_
  refine GE.seq ?_
  refine GC.ifs (fun h1 => ?_) (fun h1 => ?_)
  · -- T
    refine GC.skip ?_
    refine GE.seq ?_
    refine GC.cond_true rfl ?_
    refine GC.seq ?_
    refine GC.region ?_
    refine GL.v Wag ?_
    refine GL.nil ?_
    refine GE.seq ?_
    refine GC.ret ?_
    refine GE.block_ret ?_
    refine GE.seq_ret ?_
    -- returns, path T
    refine GE.ret_tmp (L' := L) (.inl rfl) rfl rfl Wsb ?_
    exact ⟨by unfold arityI; (repeat' split) <;> first | rfl | omega, rfl⟩
  · -- F
    refine GC.region ?_
    refine GL.v Weq ?_
    refine GL.v Wag ?_
    refine GL.nil ?_
    refine GE.seq ?_
    refine GC.ifs (fun h2 => ?_) (fun h2 => ?_)
    · -- FT
      refine GC.seq ?_
      refine GC.region ?_
      refine GL.v Wag ?_
      refine GL.nil ?_
      refine GE.seq ?_
      refine GC.ret ?_
      refine GE.block_ret ?_
      refine GE.seq_ret ?_
      -- returns, path FT
      refine GE.ret_tmp (L' := L) (.inl rfl) rfl rfl Wsb ?_
      exact ⟨by unfold arityI; (repeat' split) <;> first | rfl | omega, rfl⟩
    · -- FF
      refine GC.seq ?_
      refine GC.seq ?_
      refine GC.region ?_
      refine GL.v Weq ?_
      refine GL.v Wag ?_
      refine GL.nil ?_
      refine GE.seq ?_
      refine GC.ifs (fun h3 => ?_) (fun h3 => ?_)
      · -- FFT
        refine GC.skip ?_
        refine GE.seq ?_
        refine GC.cond_true rfl ?_
        refine GC.seq ?_
        refine GC.region ?_
        refine GL.v Wag ?_
        refine GL.nil ?_
        refine GE.seq ?_
        refine GC.ret ?_
        refine GE.block_ret ?_
        refine GE.seq_ret ?_
        -- returns, path FFT
        refine GE.ret_tmp (L' := L) (.inl rfl) rfl rfl Wsb ?_
        exact ⟨by unfold arityI; (repeat' split) <;> first | rfl | omega, rfl⟩
      · -- FFF
        refine GC.seq ?_
        refine GC.region ?_
        refine GL.v Weq ?_
        refine GL.v Wag ?_
        refine GL.nil ?_
        refine GE.seq ?_
        refine GC.ifs (fun h4 => ?_) (fun h4 => ?_)
        · -- FFFT
          refine GC.skip ?_
          refine GE.seq ?_
          refine GC.cond_true rfl ?_
          refine GC.seq ?_
          refine GC.region ?_
          refine GL.v Wag ?_
          refine GL.nil ?_
          refine GE.seq ?_
          refine GC.ret ?_
          refine GE.block_ret ?_
          refine GE.seq_ret ?_
          -- returns, path FFFT
          refine GE.ret_tmp (L' := L) (.inl rfl) rfl rfl Wsb ?_
          exact ⟨by unfold arityI; (repeat' split) <;> first | rfl | omega, rfl⟩
        · -- FFFF
          refine GC.seq ?_
          refine GC.region ?_
          refine GL.v Weq ?_
          refine GL.v Wag ?_
          refine GL.nil ?_
          refine GE.seq ?_
          refine GC.ifs (fun h5 => ?_) (fun h5 => ?_)
          · -- FFFFT
            refine GC.skip ?_
            refine GE.seq ?_
            refine GC.cond_true rfl ?_
            refine GC.seq ?_
            refine GC.region ?_
            refine GL.v Wag ?_
            refine GL.nil ?_
            refine GE.seq ?_
            refine GC.ret ?_
            refine GE.block_ret ?_
            refine GE.seq_ret ?_
            -- returns, path FFFFT
            refine GE.ret_tmp (L' := L) (.inl rfl) rfl rfl Wsb ?_
            exact ⟨by unfold arityI; (repeat' split) <;> first | rfl | omega, rfl⟩
          · -- FFFFF
            refine GC.seq ?_
            refine GC.region ?_
            refine GL.v Weq ?_
            refine GL.v Wag ?_
            refine GL.nil ?_
            refine GE.seq ?_
            refine GC.ifs (fun h6 => ?_) (fun h6 => ?_)
            · -- FFFFFT
              refine GC.skip ?_
              refine GE.seq ?_
              refine GC.cond_true rfl ?_
              refine GC.seq ?_
              refine GC.region ?_
              refine GL.v Wag ?_
              refine GL.nil ?_
              refine GE.seq ?_
              refine GC.ret ?_
              refine GE.block_ret ?_
              refine GE.seq_ret ?_
              -- returns, path FFFFFT
              refine GE.ret_tmp (L' := L) (.inl rfl) rfl rfl Wsb ?_
              exact ⟨by unfold arityI; (repeat' split) <;> first | rfl | omega, rfl⟩
            · -- FFFFFF
              refine GC.seq ?_
              refine GC.region ?_
              refine GL.v Weq ?_
              refine GL.v Wag ?_
              refine GL.nil ?_
              refine GE.seq ?_
              refine GC.ifs (fun h7 => ?_) (fun h7 => ?_)
              · -- FFFFFFT
                refine GC.skip ?_
                refine GE.seq ?_
                refine GC.cond_true rfl ?_
                refine GC.seq ?_
                refine GC.region ?_
                refine GL.v Wag ?_
                refine GL.nil ?_
                refine GE.seq ?_
                refine GC.ret ?_
                refine GE.block_ret ?_
                refine GE.seq_ret ?_
                -- returns, path FFFFFFT
                refine GE.ret_tmp (L' := L) (.inl rfl) rfl rfl Wsb ?_
                exact ⟨by unfold arityI; (repeat' split) <;> first | rfl | omega, rfl⟩
              · -- FFFFFFF
                refine GC.region ?_
                refine GL.v Weq ?_
                refine GL.v Wag ?_
                refine GL.nil ?_
                refine GE.seq ?_
                refine GC.ifs (fun h8 => ?_) (fun h8 => ?_)
                · -- FFFFFFFT
                  refine GC.seq ?_
                  refine GC.region ?_
                  refine GL.v Wag ?_
                  refine GL.nil ?_
                  refine GE.seq ?_
                  refine GC.ret ?_
                  refine GE.block_ret ?_
                  refine GE.seq_ret ?_
                  -- returns, path FFFFFFFT
                  refine GE.ret_tmp (L' := L) (.inl rfl) rfl rfl Wsb ?_
                  exact ⟨by unfold arityI; (repeat' split) <;> first | rfl | omega, rfl⟩
                · -- FFFFFFFF
                  refine GC.seq ?_
                  refine GC.region ?_
                  refine GL.v Weq ?_
                  refine GL.v Wag ?_
                  refine GL.nil ?_
                  refine GE.seq ?_
                  refine GC.ifs (fun h9 => ?_) (fun h9 => ?_)
                  · -- FFFFFFFFT
                    refine GC.seq ?_
                    refine GC.region ?_
                    refine GL.v Wag ?_
                    refine GL.nil ?_
                    refine GE.seq ?_
                    refine GC.ret ?_
                    refine GE.block_ret ?_
                    refine GE.seq_ret ?_
                    -- returns, path FFFFFFFFT
                    refine GE.ret_tmp (L' := L) (.inl rfl) rfl rfl Wsb ?_
                    exact ⟨by unfold arityI; (repeat' split) <;> first | rfl | omega, rfl⟩
                  · -- FFFFFFFFF
                    refine GC.skip ?_
                    refine GE.block ?_
                    refine GE.seq ?_
                    refine GC.seq ?_
                    refine GC.region ?_
                    refine GL.v Wag ?_
                    refine GL.nil ?_
                    refine GE.seq ?_
                    refine GC.ret ?_
                    -- returns, path FFFFFFFFF
                    refine GE.ret_tmp (L' := L) (.inl rfl) rfl rfl Wsb ?_
                    exact ⟨by unfold arityI; (repeat' split) <;> first | rfl | omega, rfl⟩
theorem numberPart_spec (w0 : World) (L : List Asn) (k : Int) : Tr Try.prog 127 #[.int .i64 k] w0 L (fun v L' => v = (numPart k).val ∧ L' = L) := by
  refine Tr.enter (args := [.int .i64 k]) Try.func127 Try.ntmps127 rfl rfl ?_
  refine GC.seq ?_
  refine GC.region ?_
  refine GL.alloc rfl ?_; intro g2
  refine GL.nil ?_
  refine GE.seq ?_
  refine GC.seq ?_
  refine GC.region ?_
  refine GL.v Wmv ?_
  refine GL.v (by exact EvP.r (Ev.build rfl (by first | exact bdPart ⟨_, _, _, _, _⟩ | exact bdReader _ _ _ | exact bdPart4 _ _ _ _ | exact bdForm _ _ _ | exact bdForm0 | exact bdGraph0 | exact bdGraph _ _ _ | exact bdNode1 _ | exact bdNode2 _ _ _ _ | exact bdHist0 | exact bdHist1 _ _ _ | exact bdHist2 _ _ _ _))) ?_
  refine GL.store_varN rfl rfl rfl Wpk (by rfl) (by rfl) (by rfl) ?_
  refine GL.nil ?_
  refine GE.seq ?_
  refine GC.ret ?_
  -- returns, path 
  refine GE.ret_cell (L' := L) (.inl rfl) rfl rfl rfl (BlkRd.of_pick Wpk) (by rfl) Wsb ?_
  exact ⟨rfl, rfl⟩
theorem goodPart_spec (w0 : World) (L : List Asn) (p : Part) (i : Int) (i0 : 0 ≤ i) (i1 : i ≤ 2000000) : Tr Try.prog 144 #[p.val, .int .i64 i] w0 L (fun v L' => v = .bool (goodB p i) ∧ L' = L) := by
  refine Tr.enter (args := [p.val, .int .i64 i]) Try.func144 Try.ntmps144 rfl rfl ?_
  refine GC.seq ?_
  refine GC.region ?_
  refine GL.box_agg rfl rfl ?_; intro g2
  refine GL.v Wag ?_
  refine GL.nil ?_
  refine GE.seq ?_
  refine GC.seq ?_
  refine GC.seq ?_
  refine GC.region ?_
  refine GL.v Wfa ?_
  refine GL.v Wlb ?_
  refine GL.callF rfl rfl (arity_spec _ _ _) ?_
  refine GL.nil ?_
  refine GE.seq ?_
  refine GC.block ?_
  refine GC.seq ?_
  refine GC.region ?_
  refine GL.v Weq ?_
  refine GL.v Wag ?_
  refine GL.nil ?_
  refine GE.seq ?_
  refine GC.ifs (fun h1 => ?_) (fun h1 => ?_)
  · -- T
    refine GC.seq ?_
    refine GC.region ?_
    refine GL.v Wag ?_
    refine GL.nil ?_
    refine GE.seq ?_
    refine GC.seq ?_
    refine GC.seq ?_
    refine GC.region ?_
    refine GL.v Wfa ?_
    refine GL.v Wlb ?_
    refine GL.v Weq ?_
    refine GL.nil ?_
    refine GE.seq ?_
    refine GC.ifs (fun h2 => ?_) (fun h2 => ?_)
    · -- TT
      refine GC.region ?_
      refine GL.v Wag ?_
      refine GL.nil ?_
      refine GE.seq ?_
      refine GC.seq ?_
      refine GC.region ?_
      refine GL.v Wfa ?_
      refine GL.v Wlb ?_
      refine GL.v Weq ?_
      refine GL.v Wmv ?_
      refine GL.gs (fun h3 => ?_) (fun h3 => ?_)
      · -- TTt
        refine GL.want rfl rfl ?_
        refine GL.v Wfa ?_
        refine GL.want rfl rfl ?_
        refine GL.v Wlb ?_
        refine GL.want rfl rfl ?_
        refine GL.v Weq ?_
        refine GL.v Wpt ?_
        refine GL.v Wmv ?_
        refine GL.gs (fun h4 => ?_) (fun h4 => ?_)
        · -- TTtt
          refine GL.want rfl rfl ?_
          refine GL.v Wfa ?_
          refine GL.want rfl rfl ?_
          refine GL.v Wlb ?_
          refine GL.want rfl rfl ?_
          refine GL.v Weq ?_
          refine GL.v Wpt ?_
          refine GL.v Wmv ?_
          refine GL.gs (fun h5 => ?_) (fun h5 => ?_)
          · -- TTttt
            refine GL.want rfl rfl ?_
            refine GL.v Wfa ?_
            refine GL.want rfl rfl ?_
            refine GL.v Wlb ?_
            refine GL.want rfl rfl ?_
            refine GL.v Wmv ?_
            refine GL.want rfl rfl ?_
            refine GL.callF rfl rfl (inRange_spec _ _ _ _ _) ?_
            refine GL.v Wpt ?_
            refine GL.v Wag ?_
            refine GL.nil ?_
            refine GE.seq ?_
            refine GC.ret ?_
            refine GE.block_ret ?_
            refine GE.seq_ret ?_
            -- returns, path TTttt
            refine GE.ret_tmp (L' := L) (.inl rfl) rfl rfl Wsb ?_
            exact ⟨by simp [goodB, show arityI 1 = 0 from rfl, *], rfl⟩
          · -- TTttf
            refine GL.unwant rfl rfl rfl rfl ?_
            refine GL.unwant rfl rfl rfl rfl ?_
            refine GL.unwant rfl rfl rfl rfl ?_
            refine GL.unwant rfl rfl rfl rfl ?_
            refine GL.v Wpf ?_
            refine GL.v Wag ?_
            refine GL.nil ?_
            refine GE.seq ?_
            refine GC.ret ?_
            refine GE.block_ret ?_
            refine GE.seq_ret ?_
            -- returns, path TTttf
            refine GE.ret_tmp (L' := L) (.inl rfl) rfl rfl Wsb ?_
            exact ⟨by simp [goodB, show arityI 1 = 0 from rfl, *], rfl⟩
        · -- TTtf
          refine GL.unwant rfl rfl rfl rfl ?_
          refine GL.unwant rfl rfl rfl rfl ?_
          refine GL.unwant rfl rfl rfl rfl ?_
          refine GL.v Wpf ?_
          refine GL.v Wmv ?_
          refine GL.unwant rfl rfl rfl rfl ?_
          refine GL.unwant rfl rfl rfl rfl ?_
          refine GL.unwant rfl rfl rfl rfl ?_
          refine GL.unwant rfl rfl rfl rfl ?_
          refine GL.v Wpf ?_
          refine GL.v Wag ?_
          refine GL.nil ?_
          refine GE.seq ?_
          refine GC.ret ?_
          refine GE.block_ret ?_
          refine GE.seq_ret ?_
          -- returns, path TTtf
          refine GE.ret_tmp (L' := L) (.inl rfl) rfl rfl Wsb ?_
          exact ⟨by simp [goodB, show arityI 1 = 0 from rfl, *], rfl⟩
      · -- TTf
        refine GL.unwant rfl rfl rfl rfl ?_
        refine GL.unwant rfl rfl rfl rfl ?_
        refine GL.unwant rfl rfl rfl rfl ?_
        refine GL.v Wpf ?_
        refine GL.v Wmv ?_
        refine GL.unwant rfl rfl rfl rfl ?_
        refine GL.unwant rfl rfl rfl rfl ?_
        refine GL.unwant rfl rfl rfl rfl ?_
        refine GL.v Wpf ?_
        refine GL.v Wmv ?_
        refine GL.unwant rfl rfl rfl rfl ?_
        refine GL.unwant rfl rfl rfl rfl ?_
        refine GL.unwant rfl rfl rfl rfl ?_
        refine GL.unwant rfl rfl rfl rfl ?_
        refine GL.v Wpf ?_
        refine GL.v Wag ?_
        refine GL.nil ?_
        refine GE.seq ?_
        refine GC.ret ?_
        refine GE.block_ret ?_
        refine GE.seq_ret ?_
        -- returns, path TTf
        refine GE.ret_tmp (L' := L) (.inl rfl) rfl rfl Wsb ?_
        exact ⟨by simp [goodB, show arityI 1 = 0 from rfl, *], rfl⟩
    · -- TF
      refine GC.skip ?_
      refine GE.seq ?_
      refine GC.seq ?_
      refine GC.region ?_
      refine GL.v Wfa ?_
      refine GL.v Wlb ?_
      refine GL.v Weq ?_
      refine GL.v Wmv ?_
      refine GL.gs (fun h3 => ?_) (fun h3 => ?_)
      · -- TFt
        refine GL.want rfl rfl ?_
        refine GL.v Wfa ?_
        refine GL.want rfl rfl ?_
        refine GL.v Wlb ?_
        refine GL.want rfl rfl ?_
        refine GL.v Weq ?_
        refine GL.v Wpt ?_
        refine GL.v Wmv ?_
        refine GL.gs (fun h4 => ?_) (fun h4 => ?_)
        · -- TFtt
          refine GL.want rfl rfl ?_
          refine GL.v Wfa ?_
          refine GL.want rfl rfl ?_
          refine GL.v Wlb ?_
          refine GL.want rfl rfl ?_
          refine GL.v Weq ?_
          refine GL.v Wpt ?_
          refine GL.v Wmv ?_
          refine GL.gs (fun h5 => ?_) (fun h5 => ?_)
          · -- TFttt
            refine GL.want rfl rfl ?_
            refine GL.v Wfa ?_
            refine GL.want rfl rfl ?_
            refine GL.v Wlb ?_
            refine GL.want rfl rfl ?_
            refine GL.v Wmv ?_
            refine GL.want rfl rfl ?_
            refine GL.callF rfl rfl (inRange_spec _ _ _ _ _) ?_
            refine GL.v Wpt ?_
            refine GL.v Wag ?_
            refine GL.nil ?_
            refine GE.seq ?_
            refine GC.ret ?_
            refine GE.block_ret ?_
            refine GE.seq_ret ?_
            -- returns, path TFttt
            refine GE.ret_tmp (L' := L) (.inl rfl) rfl rfl Wsb ?_
            exact ⟨by simp [goodB, show arityI 1 = 0 from rfl, *], rfl⟩
          · -- TFttf
            refine GL.unwant rfl rfl rfl rfl ?_
            refine GL.unwant rfl rfl rfl rfl ?_
            refine GL.unwant rfl rfl rfl rfl ?_
            refine GL.unwant rfl rfl rfl rfl ?_
            refine GL.v Wpf ?_
            refine GL.v Wag ?_
            refine GL.nil ?_
            refine GE.seq ?_
            refine GC.ret ?_
            refine GE.block_ret ?_
            refine GE.seq_ret ?_
            -- returns, path TFttf
            refine GE.ret_tmp (L' := L) (.inl rfl) rfl rfl Wsb ?_
            exact ⟨by simp [goodB, show arityI 1 = 0 from rfl, *], rfl⟩
        · -- TFtf
          refine GL.unwant rfl rfl rfl rfl ?_
          refine GL.unwant rfl rfl rfl rfl ?_
          refine GL.unwant rfl rfl rfl rfl ?_
          refine GL.v Wpf ?_
          refine GL.v Wmv ?_
          refine GL.unwant rfl rfl rfl rfl ?_
          refine GL.unwant rfl rfl rfl rfl ?_
          refine GL.unwant rfl rfl rfl rfl ?_
          refine GL.unwant rfl rfl rfl rfl ?_
          refine GL.v Wpf ?_
          refine GL.v Wag ?_
          refine GL.nil ?_
          refine GE.seq ?_
          refine GC.ret ?_
          refine GE.block_ret ?_
          refine GE.seq_ret ?_
          -- returns, path TFtf
          refine GE.ret_tmp (L' := L) (.inl rfl) rfl rfl Wsb ?_
          exact ⟨by simp [goodB, show arityI 1 = 0 from rfl, *], rfl⟩
      · -- TFf
        refine GL.unwant rfl rfl rfl rfl ?_
        refine GL.unwant rfl rfl rfl rfl ?_
        refine GL.unwant rfl rfl rfl rfl ?_
        refine GL.v Wpf ?_
        refine GL.v Wmv ?_
        refine GL.unwant rfl rfl rfl rfl ?_
        refine GL.unwant rfl rfl rfl rfl ?_
        refine GL.unwant rfl rfl rfl rfl ?_
        refine GL.v Wpf ?_
        refine GL.v Wmv ?_
        refine GL.unwant rfl rfl rfl rfl ?_
        refine GL.unwant rfl rfl rfl rfl ?_
        refine GL.unwant rfl rfl rfl rfl ?_
        refine GL.unwant rfl rfl rfl rfl ?_
        refine GL.v Wpf ?_
        refine GL.v Wag ?_
        refine GL.nil ?_
        refine GE.seq ?_
        refine GC.ret ?_
        refine GE.block_ret ?_
        refine GE.seq_ret ?_
        -- returns, path TFf
        refine GE.ret_tmp (L' := L) (.inl rfl) rfl rfl Wsb ?_
        exact ⟨by simp [goodB, show arityI 1 = 0 from rfl, *], rfl⟩
  · -- F
    refine GC.seq ?_
    refine GC.region ?_
    refine GL.v Weq ?_
    refine GL.v Wag ?_
    refine GL.nil ?_
    refine GE.seq ?_
    refine GC.ifs (fun h2 => ?_) (fun h2 => ?_)
    · -- FT
      refine GC.seq ?_
      refine GC.region ?_
      refine GL.v Wfa ?_
      refine GL.v Wlb ?_
      refine GL.v Wmv ?_
      refine GL.v Wsu ?_
      refine GL.callF rfl rfl (inRange_spec _ _ _ _ _) ?_
      refine GL.v Wmv ?_
      refine GL.gs (fun h3 => ?_) (fun h3 => ?_)
      · -- FTt
        refine GL.want rfl rfl ?_
        refine GL.v Wfa ?_
        refine GL.want rfl rfl ?_
        refine GL.v Wlb ?_
        refine GL.want rfl rfl ?_
        refine GL.v Wmv ?_
        refine GL.want rfl rfl ?_
        refine GL.v Wsu ?_
        refine GL.want rfl rfl ?_
        refine GL.callF rfl rfl (inRange_spec _ _ _ _ _) ?_
        refine GL.v Wpt ?_
        refine GL.v Wmv ?_
        refine GL.gs (fun h4 => ?_) (fun h4 => ?_)
        · -- FTtt
          refine GL.want rfl rfl ?_
          refine GL.v Wfa ?_
          refine GL.want rfl rfl ?_
          refine GL.v Wlb ?_
          refine GL.want rfl rfl ?_
          refine GL.v Weq ?_
          refine GL.v Wpt ?_
          refine GL.v Wmv ?_
          refine GL.gs (fun h5 => ?_) (fun h5 => ?_)
          · -- FTttt
            refine GL.want rfl rfl ?_
            refine GL.v Wfa ?_
            refine GL.want rfl rfl ?_
            refine GL.v Wlb ?_
            refine GL.want rfl rfl ?_
            refine GL.v Weq ?_
            refine GL.v Wpt ?_
            refine GL.v Wag ?_
            refine GL.nil ?_
            refine GE.seq ?_
            refine GC.ret ?_
            refine GE.block_ret ?_
            refine GE.seq_ret ?_
            -- returns, path FTttt
            refine GE.ret_tmp (L' := L) (.inl rfl) rfl rfl Wsb ?_
            exact ⟨by simp [goodB, show arityI 1 = 0 from rfl, *], rfl⟩
          · -- FTttf
            refine GL.unwant rfl rfl rfl rfl ?_
            refine GL.unwant rfl rfl rfl rfl ?_
            refine GL.unwant rfl rfl rfl rfl ?_
            refine GL.v Wpf ?_
            refine GL.v Wag ?_
            refine GL.nil ?_
            refine GE.seq ?_
            refine GC.ret ?_
            refine GE.block_ret ?_
            refine GE.seq_ret ?_
            -- returns, path FTttf
            refine GE.ret_tmp (L' := L) (.inl rfl) rfl rfl Wsb ?_
            exact ⟨by simp [goodB, show arityI 1 = 0 from rfl, *], rfl⟩
        · -- FTtf
          refine GL.unwant rfl rfl rfl rfl ?_
          refine GL.unwant rfl rfl rfl rfl ?_
          refine GL.unwant rfl rfl rfl rfl ?_
          refine GL.v Wpf ?_
          refine GL.v Wmv ?_
          refine GL.unwant rfl rfl rfl rfl ?_
          refine GL.unwant rfl rfl rfl rfl ?_
          refine GL.unwant rfl rfl rfl rfl ?_
          refine GL.v Wpf ?_
          refine GL.v Wag ?_
          refine GL.nil ?_
          refine GE.seq ?_
          refine GC.ret ?_
          refine GE.block_ret ?_
          refine GE.seq_ret ?_
          -- returns, path FTtf
          refine GE.ret_tmp (L' := L) (.inl rfl) rfl rfl Wsb ?_
          exact ⟨by simp [goodB, show arityI 1 = 0 from rfl, *], rfl⟩
      · -- FTf
        refine GL.unwant rfl rfl rfl rfl ?_
        refine GL.unwant rfl rfl rfl rfl ?_
        refine GL.unwant rfl rfl rfl rfl ?_
        refine GL.unwant rfl rfl rfl rfl ?_
        refine GL.unwant rfl rfl rfl rfl ?_
        refine GL.v Wpf ?_
        refine GL.v Wmv ?_
        refine GL.unwant rfl rfl rfl rfl ?_
        refine GL.unwant rfl rfl rfl rfl ?_
        refine GL.unwant rfl rfl rfl rfl ?_
        refine GL.v Wpf ?_
        refine GL.v Wmv ?_
        refine GL.unwant rfl rfl rfl rfl ?_
        refine GL.unwant rfl rfl rfl rfl ?_
        refine GL.unwant rfl rfl rfl rfl ?_
        refine GL.v Wpf ?_
        refine GL.v Wag ?_
        refine GL.nil ?_
        refine GE.seq ?_
        refine GC.ret ?_
        refine GE.block_ret ?_
        refine GE.seq_ret ?_
        -- returns, path FTf
        refine GE.ret_tmp (L' := L) (.inl rfl) rfl rfl Wsb ?_
        exact ⟨by simp [goodB, show arityI 1 = 0 from rfl, *], rfl⟩
    · -- FF
      refine GC.seq ?_
      refine GC.region ?_
      refine GL.v Weq ?_
      refine GL.v Wag ?_
      refine GL.nil ?_
      refine GE.seq ?_
      refine GC.ifs (fun h3 => ?_) (fun h3 => ?_)
      · -- FFT
        refine GC.seq ?_
        refine GC.region ?_
        refine GL.v Wfa ?_
        refine GL.v Wlb ?_
        refine GL.v Wmv ?_
        refine GL.v Wsu ?_
        refine GL.callF rfl rfl (inRange_spec _ _ _ _ _) ?_
        refine GL.v Wmv ?_
        refine GL.gs (fun h4 => ?_) (fun h4 => ?_)
        · -- FFTt
          refine GL.want rfl rfl ?_
          refine GL.v Wfa ?_
          refine GL.want rfl rfl ?_
          refine GL.v Wlb ?_
          refine GL.want rfl rfl ?_
          refine GL.v Wmv ?_
          refine GL.want rfl rfl ?_
          refine GL.v Wsu ?_
          refine GL.want rfl rfl ?_
          refine GL.callF rfl rfl (inRange_spec _ _ _ _ _) ?_
          refine GL.v Wpt ?_
          refine GL.v Wmv ?_
          refine GL.gs (fun h5 => ?_) (fun h5 => ?_)
          · -- FFTtt
            refine GL.want rfl rfl ?_
            refine GL.v Wfa ?_
            refine GL.want rfl rfl ?_
            refine GL.v Wlb ?_
            refine GL.want rfl rfl ?_
            refine GL.v Wmv ?_
            refine GL.want rfl rfl ?_
            refine GL.v Wsu ?_
            refine GL.want rfl rfl ?_
            refine GL.callF rfl rfl (inRange_spec _ _ _ _ _) ?_
            refine GL.v Wpt ?_
            refine GL.v Wmv ?_
            refine GL.gs (fun h6 => ?_) (fun h6 => ?_)
            · -- FFTttt
              refine GL.want rfl rfl ?_
              refine GL.v Wfa ?_
              refine GL.want rfl rfl ?_
              refine GL.v Wlb ?_
              refine GL.want rfl rfl ?_
              refine GL.v Weq ?_
              refine GL.v Wpt ?_
              refine GL.v Wag ?_
              refine GL.nil ?_
              refine GE.seq ?_
              refine GC.ret ?_
              refine GE.block_ret ?_
              refine GE.seq_ret ?_
              -- returns, path FFTttt
              refine GE.ret_tmp (L' := L) (.inl rfl) rfl rfl Wsb ?_
              exact ⟨by simp [goodB, show arityI 1 = 0 from rfl, *], rfl⟩
            · -- FFTttf
              refine GL.unwant rfl rfl rfl rfl ?_
              refine GL.unwant rfl rfl rfl rfl ?_
              refine GL.unwant rfl rfl rfl rfl ?_
              refine GL.v Wpf ?_
              refine GL.v Wag ?_
              refine GL.nil ?_
              refine GE.seq ?_
              refine GC.ret ?_
              refine GE.block_ret ?_
              refine GE.seq_ret ?_
              -- returns, path FFTttf
              refine GE.ret_tmp (L' := L) (.inl rfl) rfl rfl Wsb ?_
              exact ⟨by simp [goodB, show arityI 1 = 0 from rfl, *], rfl⟩
          · -- FFTtf
            refine GL.unwant rfl rfl rfl rfl ?_
            refine GL.unwant rfl rfl rfl rfl ?_
            refine GL.unwant rfl rfl rfl rfl ?_
            refine GL.unwant rfl rfl rfl rfl ?_
            refine GL.unwant rfl rfl rfl rfl ?_
            refine GL.v Wpf ?_
            refine GL.v Wmv ?_
            refine GL.unwant rfl rfl rfl rfl ?_
            refine GL.unwant rfl rfl rfl rfl ?_
            refine GL.unwant rfl rfl rfl rfl ?_
            refine GL.v Wpf ?_
            refine GL.v Wag ?_
            refine GL.nil ?_
            refine GE.seq ?_
            refine GC.ret ?_
            refine GE.block_ret ?_
            refine GE.seq_ret ?_
            -- returns, path FFTtf
            refine GE.ret_tmp (L' := L) (.inl rfl) rfl rfl Wsb ?_
            exact ⟨by simp [goodB, show arityI 1 = 0 from rfl, *], rfl⟩
        · -- FFTf
          refine GL.unwant rfl rfl rfl rfl ?_
          refine GL.unwant rfl rfl rfl rfl ?_
          refine GL.unwant rfl rfl rfl rfl ?_
          refine GL.unwant rfl rfl rfl rfl ?_
          refine GL.unwant rfl rfl rfl rfl ?_
          refine GL.v Wpf ?_
          refine GL.v Wmv ?_
          refine GL.unwant rfl rfl rfl rfl ?_
          refine GL.unwant rfl rfl rfl rfl ?_
          refine GL.unwant rfl rfl rfl rfl ?_
          refine GL.unwant rfl rfl rfl rfl ?_
          refine GL.unwant rfl rfl rfl rfl ?_
          refine GL.v Wpf ?_
          refine GL.v Wmv ?_
          refine GL.unwant rfl rfl rfl rfl ?_
          refine GL.unwant rfl rfl rfl rfl ?_
          refine GL.unwant rfl rfl rfl rfl ?_
          refine GL.v Wpf ?_
          refine GL.v Wag ?_
          refine GL.nil ?_
          refine GE.seq ?_
          refine GC.ret ?_
          refine GE.block_ret ?_
          refine GE.seq_ret ?_
          -- returns, path FFTf
          refine GE.ret_tmp (L' := L) (.inl rfl) rfl rfl Wsb ?_
          exact ⟨by simp [goodB, show arityI 1 = 0 from rfl, *], rfl⟩
      · -- FFF
        refine GC.skip ?_
        refine GE.block ?_
        refine GE.seq ?_
        refine GC.seq ?_
        refine GC.region ?_
        refine GL.v Wag ?_
        refine GL.nil ?_
        refine GE.seq ?_
        refine GC.ret ?_
        -- returns, path FFF
        refine GE.ret_tmp (L' := L) (.inl rfl) rfl rfl Wsb ?_
        exact ⟨by simp [goodB, show arityI 1 = 0 from rfl, *], rfl⟩
theorem sbelow_spec (w0 : World) (L : List Asn) (p : Part) : Tr Try.prog 145 #[p.val] w0 L (fun v L' => ∃ A c, v = .slice A (belowL p).length c ∧ L' = row intE A c (belowL p) :: L) := by
  refine Tr.enter (args := [p.val]) Try.func145 Try.ntmps145 rfl rfl ?_
  refine GC.seq ?_
  refine GC.region ?_
  refine GL.box_agg rfl rfl ?_; intro g1
  refine GL.v Wag ?_
  refine GL.nil ?_
  refine GE.seq ?_
  refine GC.seq ?_
  refine GC.seq ?_
  refine GC.region ?_
  refine GL.v Wfa ?_
  refine GL.v Wlb ?_
  refine GL.callF rfl rfl (arity_spec _ _ _) ?_
  refine GL.nil ?_
  refine GE.seq ?_
  refine GC.block ?_
  refine GC.seq ?_
  refine GC.region ?_
  refine GL.v Weq ?_
  refine GL.v Wag ?_
  refine GL.nil ?_
  refine GE.seq ?_
  refine GC.ifs (fun h1 => ?_) (fun h1 => ?_)
  · -- T
    refine GC.seq ?_
    refine GC.region ?_
    refine GL.v Wfa ?_
    refine GL.v Wlb ?_
    refine GL.v Wfa ?_
    refine GL.v Wlb ?_
    refine GL.buildSlice rfl (by first | exact bsInt0 | exact bsInt1 _ | exact bsInt2 _ _ | exact bsInt3 _ _ _ | exact bsInt4 _ _ _ _ | exact bsInt5 _ _ _ _ _ | exact bsInt6 _ _ _ _ _ _ | exact bsInt7 _ _ _ _ _ _ _ | exact bsInt8 _ _ _ _ _ _ _ _ | exact bsInt9 _ _ _ _ _ _ _ _ _ | exact bsInt10 _ _ _ _ _ _ _ _ _ _ | exact bsPart0 | exact bsPart1 ⟨_, _, _, _, _⟩ | exact bsNode1 ⟨_, _, _, _⟩ | exact bsPtr3 _ _ _ | exact bsSl0 | exact bsSl1 ⟨_, _, _⟩) rfl (by decide) rfl ?_; intro g12
    refine GL.v Wag ?_
    refine GL.nil ?_
    refine GE.seq ?_
    refine GC.ret ?_
    refine GE.block_ret ?_
    refine GE.seq_ret ?_
    -- returns, path T
    refine GE.ret_tmp (L' := row intE (some ⟨g12, 0, none⟩) 2 [p.a, p.b] :: L) (.inl rfl) rfl rfl Wsb ?_
    rw [belowL_ar2 h1]; exact ⟨_, _, rfl, rfl⟩
  · -- F
    refine GC.seq ?_
    refine GC.region ?_
    refine GL.v Weq ?_
    refine GL.v Wag ?_
    refine GL.nil ?_
    refine GE.seq ?_
    refine GC.ifs (fun h2 => ?_) (fun h2 => ?_)
    · -- FT
      refine GC.seq ?_
      refine GC.region ?_
      refine GL.v Wfa ?_
      refine GL.v Wlb ?_
      refine GL.v Wfa ?_
      refine GL.v Wlb ?_
      refine GL.v Wfa ?_
      refine GL.v Wlb ?_
      refine GL.buildSlice rfl (by first | exact bsInt0 | exact bsInt1 _ | exact bsInt2 _ _ | exact bsInt3 _ _ _ | exact bsInt4 _ _ _ _ | exact bsInt5 _ _ _ _ _ | exact bsInt6 _ _ _ _ _ _ | exact bsInt7 _ _ _ _ _ _ _ | exact bsInt8 _ _ _ _ _ _ _ _ | exact bsInt9 _ _ _ _ _ _ _ _ _ | exact bsInt10 _ _ _ _ _ _ _ _ _ _ | exact bsPart0 | exact bsPart1 ⟨_, _, _, _, _⟩ | exact bsNode1 ⟨_, _, _, _⟩ | exact bsPtr3 _ _ _ | exact bsSl0 | exact bsSl1 ⟨_, _, _⟩) rfl (by decide) rfl ?_; intro g21
      refine GL.v Wag ?_
      refine GL.nil ?_
      refine GE.seq ?_
      refine GC.ret ?_
      refine GE.block_ret ?_
      refine GE.seq_ret ?_
      -- returns, path FT
      refine GE.ret_tmp (L' := row intE (some ⟨g21, 0, none⟩) 3 [p.a, p.b, p.c] :: L) (.inl rfl) rfl rfl Wsb ?_
      rw [belowL_ar3 h2]; exact ⟨_, _, rfl, rfl⟩
    · -- FF
      refine GC.skip ?_
      refine GE.block ?_
      refine GE.seq ?_
      refine GC.seq ?_
      refine GC.region ?_
      refine GL.buildSlice rfl (by first | exact bsInt0 | exact bsInt1 _ | exact bsInt2 _ _ | exact bsInt3 _ _ _ | exact bsInt4 _ _ _ _ | exact bsInt5 _ _ _ _ _ | exact bsInt6 _ _ _ _ _ _ | exact bsInt7 _ _ _ _ _ _ _ | exact bsInt8 _ _ _ _ _ _ _ _ | exact bsInt9 _ _ _ _ _ _ _ _ _ | exact bsInt10 _ _ _ _ _ _ _ _ _ _ | exact bsPart0 | exact bsPart1 ⟨_, _, _, _, _⟩ | exact bsNode1 ⟨_, _, _, _⟩ | exact bsPtr3 _ _ _ | exact bsSl0 | exact bsSl1 ⟨_, _, _⟩) rfl (by decide) rfl ?_; intro g22
      refine GL.v Wag ?_
      refine GL.nil ?_
      refine GE.seq ?_
      refine GC.ret ?_
      -- returns, path FF
      refine GE.ret_tmp (L' := row intE (some ⟨g22, 0, none⟩) 0 [] :: L) (.inl rfl) rfl rfl Wsb ?_
      rw [belowL_ar0 h1 h2]; exact ⟨_, _, rfl, rfl⟩
end SG
