/- Contracts: the reference's value of a formula, and what it reads; the program's ReadsOf. -/
import Derived.Test.YtojffodplphlaaaD14
import Derived.Test.YtojffodplphlaaaD16
import Derived.Test.YtojffodplphlaaaPA
namespace SG
open Go Go.RowKit Go.Proofs
set_option linter.unusedVariables false
set_option linter.unusedSimpArgs false
set_option maxRecDepth 100000
/-- a slice told by another list of its length -/
theorem Tr.len2 {P : Program} {f : FuncId} {a : Value} {n : Nat} {B : Option Addr} {d : Nat} {w0 : World} {L : List Asn} {R : Value → List Asn → Prop} (xs : List Int) (h : n = xs.length) (hT : Tr P f #[a, .slice B xs.length d] w0 L R) : Tr P f #[a, .slice B n d] w0 L R := by rw [h]; exact hT
theorem placeIn_spec (w0 : World) (L : List Asn) (A : Option Addr) (c : Nat) (xs : List Int) (hX : Rd w0 L intE A c xs) (hl : xs.length ≤ 1100000) (n : Int) :
    Tr Try.prog 136 #[.slice A xs.length c, .int .i64 n] w0 L (fun v L' => ∃ k : Int, v = .int .i64 k ∧ (k < 0 ↔ xs.contains n = false) ∧ L' = L) := by
  refine Tr.enter (args := [.slice A xs.length c, .int .i64 n]) Try.func136 Try.ntmps136 rfl rfl ?_
  refine GC.seq ?_
  refine GC.region ?_
  refine GL.v Wag ?_
  refine GL.nil ?_
  refine GE.seq ?_
  refine GC.seq ?_
  refine GC.seq ?_
  refine GC.region ?_
  refine GL.v Wag ?_
  refine GL.nil ?_
  refine GE.seq ?_
  refine GC.block ?_
  -- loop 1: carried slots [5]
  refine GC.loopK (α := Nat) (fun i => i ≤ xs.length ∧ ∀ j (h : j < i) (h' : j < xs.length), xs[j] ≠ n) (fun i => [(5, .int .i64 i)]) [(0, _), (1, _)] (fun i => L) (fun i => xs.length - i) 0 Wkp Wsb ⟨Nat.zero_le _, fun _ h => by omega⟩ ?_
  rintro i ⟨hi, hno⟩
  refine GC.seq ?_
  refine GC.seq ?_
  refine GC.region ?_
  refine GL.v Wmv ?_
  refine GL.v Wmv ?_
  refine GL.v Wln ?_
  refine GL.v Wls ?_
  refine GL.nil ?_
  refine GE.seq ?_
  refine GC.ifs (fun h1 => ?_) (fun h1 => ?_)
  · -- T
    have hil : i < xs.length := by omega
    refine GC.skip ?_
    refine GE.seq ?_
    refine GC.seq ?_
    refine GC.block ?_
    refine GC.seq ?_
    refine GC.region ?_
    refine GL.v Wmv ?_
    refine GL.v Wmv ?_
    refine GL.v Wix ?_
    refine GL.v Wle ?_
    refine GL.v Wmv ?_
    refine GL.v Weq ?_
    refine GL.nil ?_
    refine GE.seq ?_
    refine GC.ifs (fun h2 => ?_) (fun h2 => ?_)
    · -- TT
      refine GC.seq ?_
      refine GC.region ?_
      refine GL.v Wmv ?_
      refine GL.v Wag ?_
      refine GL.nil ?_
      refine GE.seq ?_
      refine GC.ret ?_
      refine GE.block_ret ?_
      refine GE.seq_ret ?_
      refine GE.loop_ret ?_
      refine GE.block_ret ?_
      refine GE.seq_ret ?_
      -- returns, path TT
      refine GE.ret_tmp (L' := L) (.inl rfl) rfl rfl Wsb ?_
      exact ⟨_, rfl, ⟨fun _ => by omega, fun h => absurd h (by rw [← h2]; simp)⟩, rfl⟩
    · -- TF
      refine GC.skip ?_
      refine GE.block ?_
      refine GE.seq ?_
      refine GC.region ?_
      refine GL.v Wmv ?_
      refine GL.v Wad ?_
      refine GL.v Wag ?_
      refine GL.nil ?_
      -- round of loop 1, path TF
      refine GE.round (i + 1) ⟨by omega, fun j h h' => ?_⟩ (by omega) Wkp Wsb
      by_cases e : j = i
      · subst e; exact h2
      · exact hno j (by omega) h'
  · -- F
    refine GC.exit ?_
    refine GE.seq_exit ?_
    refine GE.loop_exit ?_
    refine GE.block_exit ?_
    refine GE.seq ?_
    refine GC.seq ?_
    refine GC.region ?_
    refine GL.v Wag ?_
    refine GL.nil ?_
    refine GE.seq ?_
    refine GC.ret ?_
    -- returns, path F
    refine GE.ret_tmp (L' := L) (.inl rfl) rfl rfl Wsb ?_
    refine ⟨-1, rfl, ⟨fun _ => ?_, fun h => by omega⟩, rfl⟩
    cases hc : xs.contains n with
    | false => rfl
    | true =>
      obtain ⟨j, hj, e⟩ := List.mem_iff_getElem.1 (show n ∈ xs by simpa using hc)
      exact absurd e (hno j (by omega) hj)
theorem allIn_spec (w0 : World) (L : List Asn) (A : Option Addr) (c : Nat) (xs : List Int) (hX : Rd w0 L intE A c xs) (lo hi : Int) (hl : xs.length ≤ 1100000) :
    Tr Try.prog 138 #[.slice A xs.length c, .int .i64 lo, .int .i64 hi] w0 L (fun v L' => v = .bool (allB xs lo hi) ∧ L' = L) := by
  refine Tr.enter (args := [.slice A xs.length c, .int .i64 lo, .int .i64 hi]) Try.func138 Try.ntmps138 rfl rfl ?_
  refine GC.seq ?_
  refine GC.region ?_
  refine GL.v Wag ?_
  refine GL.nil ?_
  refine GE.seq ?_
  refine GC.seq ?_
  refine GC.seq ?_
  refine GC.region ?_
  refine GL.v Wag ?_
  refine GL.nil ?_
  refine GE.seq ?_
  refine GC.block ?_
  -- loop 1: carried slots [7]
  refine GC.loopK (α := Nat) (fun i => i ≤ xs.length ∧ ∀ j (h : j < i) (h' : j < xs.length), lo ≤ xs[j] ∧ xs[j] ≤ hi) (fun i => [(7, .int .i64 i)]) [(0, _), (1, _), (2, _)] (fun i => L) (fun i => xs.length - i) 0 Wkp Wsb ⟨Nat.zero_le _, fun _ h => by omega⟩ ?_
  rintro i ⟨hi', hno⟩
  refine GC.seq ?_
  refine GC.seq ?_
  refine GC.region ?_
  refine GL.v Wmv ?_
  refine GL.v Wmv ?_
  refine GL.v Wln ?_
  refine GL.v Wls ?_
  refine GL.nil ?_
  refine GE.seq ?_
  refine GC.ifs (fun h1 => ?_) (fun h1 => ?_)
  · -- T
    have hil : i < xs.length := by omega
    refine GC.skip ?_
    refine GE.seq ?_
    refine GC.seq ?_
    refine GC.block ?_
    refine GC.seq ?_
    refine GC.region ?_
    refine GL.v Wmv ?_
    refine GL.v Wmv ?_
    refine GL.v Wix ?_
    refine GL.v Wle ?_
    refine GL.v Wmv ?_
    refine GL.v Wmv ?_
    refine GL.callF rfl rfl (inRange_spec _ _ _ _ _) ?_
    refine GL.v Wnt ?_
    refine GL.nil ?_
    refine GE.seq ?_
    refine GC.ifs (fun h2 => ?_) (fun h2 => ?_)
    · -- TT
      refine GC.seq ?_
      refine GC.region ?_
      refine GL.v Wag ?_
      refine GL.nil ?_
      refine GE.seq ?_
      refine GC.ret ?_
      refine GE.block_ret ?_
      refine GE.seq_ret ?_
      refine GE.loop_ret ?_
      refine GE.block_ret ?_
      refine GE.seq_ret ?_
      -- returns, path TT
      refine GE.ret_tmp (L' := L) (.inl rfl) rfl rfl Wsb ?_
      exact ⟨by rw [allB_not hil (inB_not.1 h2)], rfl⟩
    · -- TF
      refine GC.skip ?_
      refine GE.block ?_
      refine GE.seq ?_
      refine GC.region ?_
      refine GL.v Wmv ?_
      refine GL.v Wad ?_
      refine GL.v Wag ?_
      refine GL.nil ?_
      -- round of loop 1, path TF
      refine GE.round (i + 1) ⟨by omega, fun j h h' => ?_⟩ (by omega) Wkp Wsb
      by_cases e : j = i
      · subst e; exact inB_iff.1 h2
      · exact hno j (by omega) h'
  · -- F
    refine GC.exit ?_
    refine GE.seq_exit ?_
    refine GE.loop_exit ?_
    refine GE.block_exit ?_
    refine GE.seq ?_
    refine GC.seq ?_
    refine GC.region ?_
    refine GL.v Wag ?_
    refine GL.nil ?_
    refine GE.seq ?_
    refine GC.ret ?_
    -- returns, path F
    refine GE.ret_tmp (L' := L) (.inl rfl) rfl rfl Wsb ?_
    exact ⟨by rw [allB_iff.2 (fun x hx => by obtain ⟨j, hj, rfl⟩ := List.mem_iff_getElem.1 hx; exact hno j (by omega) hj)], rfl⟩
theorem joined_spec (w0 : World) (L : List Asn) (k x y : Int) (hx : InMod x) (hy : InMod y) : Tr Try.prog 148 #[.int .i64 k, .int .i64 x, .int .i64 y] w0 L (fun v L' => v = .int .i64 (joinI k x y) ∧ L' = L) := by
  obtain ⟨x0, x1⟩ := hx
  obtain ⟨y0, y1⟩ := hy
  have hm0 : 0 ≤ x * y := Int.mul_nonneg x0 y0
  have hm1 : x * y ≤ 999 * 999 := Int.mul_le_mul x1 y1 y0 (by omega)
  refine Tr.enter (args := [.int .i64 k, .int .i64 x, .int .i64 y]) Try.func148 Try.ntmps148 rfl rfl ?_
  refine GC.seq ?_
  refine GC.region ?_
  refine GL.v Wag ?_
  refine GL.nil ?_
  refine GE.seq ?_
  refine GC.seq ?_
  refine GC.seq ?_
  refine GC.region ?_
  refine GL.v Wmv ?_
  refine GL.nil ?_
  refine GE.seq ?_
  refine GC.block ?_
  refine GC.seq ?_
  refine GC.region ?_
  refine GL.v Weq ?_
  refine GL.v Wag ?_
  refine GL.nil ?_
  refine GE.seq ?_
  refine GC.ifs (fun h1 => ?_) (fun h1 => ?_)
  · -- T
    refine GC.seq ?_
    refine GC.region ?_
    refine GL.v Wmv ?_
    refine GL.v Wmv ?_
    refine GL.v Wad ?_
    refine GL.v (by exact EvP.r (Ev.rem rfl rfl (by omega) (by omega))) ?_
    refine GL.v Wag ?_
    refine GL.nil ?_
    refine GE.seq ?_
    refine GC.ret ?_
    refine GE.block_ret ?_
    refine GE.seq_ret ?_
    -- returns, path T
    refine GE.ret_tmp (L' := L) (.inl rfl) rfl rfl Wsb ?_
    exact ⟨by simp [joinI, *], rfl⟩
  · -- F
    refine GC.seq ?_
    refine GC.region ?_
    refine GL.v Weq ?_
    refine GL.v Wag ?_
    refine GL.nil ?_
    refine GE.seq ?_
    refine GC.ifs (fun h2 => ?_) (fun h2 => ?_)
    · -- FT
      refine GC.seq ?_
      refine GC.region ?_
      refine GL.v Wmv ?_
      refine GL.v Wmv ?_
      refine GL.v Wsu ?_
      refine GL.v Wad ?_
      refine GL.v (by exact EvP.r (Ev.rem rfl rfl (by omega) (by omega))) ?_
      refine GL.v Wag ?_
      refine GL.nil ?_
      refine GE.seq ?_
      refine GC.ret ?_
      refine GE.block_ret ?_
      refine GE.seq_ret ?_
      -- returns, path FT
      refine GE.ret_tmp (L' := L) (.inl rfl) rfl rfl Wsb ?_
      exact ⟨by simp [joinI, *], rfl⟩
    · -- FF
      refine GC.seq ?_
      refine GC.region ?_
      refine GL.v Weq ?_
      refine GL.v Wag ?_
      refine GL.nil ?_
      refine GE.seq ?_
      refine GC.ifs (fun h3 => ?_) (fun h3 => ?_)
      · -- FFT
        refine GC.seq ?_
        refine GC.region ?_
        refine GL.v Wmv ?_
        refine GL.v Wmv ?_
        refine GL.v (by exact EvP.r (Ev.mul rfl rfl (by omega))) ?_
        refine GL.v (by exact EvP.r (Ev.rem rfl rfl (by omega) (by omega))) ?_
        refine GL.v Wag ?_
        refine GL.nil ?_
        refine GE.seq ?_
        refine GC.ret ?_
        refine GE.block_ret ?_
        refine GE.seq_ret ?_
        -- returns, path FFT
        refine GE.ret_tmp (L' := L) (.inl rfl) rfl rfl Wsb ?_
        exact ⟨by simp [joinI, *], rfl⟩
      · -- FFF
        refine GC.seq ?_
        refine GC.region ?_
        refine GL.v Weq ?_
        refine GL.v Wag ?_
        refine GL.nil ?_
        refine GE.seq ?_
        refine GC.ifs (fun h4 => ?_) (fun h4 => ?_)
        · -- FFFT
          refine GC.seq ?_
          refine GC.region ?_
          refine GL.v Wmv ?_
          refine GL.v Wmv ?_
          refine GL.v (by exact EvP.r (Ev.min rfl rfl)) ?_
          refine GL.v Wag ?_
          refine GL.nil ?_
          refine GE.seq ?_
          refine GC.ret ?_
          refine GE.block_ret ?_
          refine GE.seq_ret ?_
          -- returns, path FFFT
          refine GE.ret_tmp (L' := L) (.inl rfl) rfl rfl Wsb ?_
          exact ⟨by simp [joinI, *], rfl⟩
        · -- FFFF
          refine GC.seq ?_
          refine GC.region ?_
          refine GL.v Weq ?_
          refine GL.v Wag ?_
          refine GL.nil ?_
          refine GE.seq ?_
          refine GC.ifs (fun h5 => ?_) (fun h5 => ?_)
          · -- FFFFT
            refine GC.seq ?_
            refine GC.region ?_
            refine GL.v Wmv ?_
            refine GL.v Wmv ?_
            refine GL.v (by exact EvP.r (Ev.max rfl rfl)) ?_
            refine GL.v Wag ?_
            refine GL.nil ?_
            refine GE.seq ?_
            refine GC.ret ?_
            refine GE.block_ret ?_
            refine GE.seq_ret ?_
            -- returns, path FFFFT
            refine GE.ret_tmp (L' := L) (.inl rfl) rfl rfl Wsb ?_
            exact ⟨by simp [joinI, *], rfl⟩
          · -- FFFFF
            refine GC.skip ?_
            refine GE.block ?_
            refine GE.seq ?_
            refine GC.seq ?_
            refine GC.seq ?_
            refine GC.region ?_
            refine GL.v Wmv ?_
            refine GL.v Wmv ?_
            refine GL.v Wls ?_
            refine GL.nil ?_
            refine GE.seq ?_
            refine GC.ifs (fun h6 => ?_) (fun h6 => ?_)
            · -- FFFFFT
              refine GC.seq ?_
              refine GC.region ?_
              refine GL.v Wag ?_
              refine GL.nil ?_
              refine GE.seq ?_
              refine GC.ret ?_
              refine GE.seq_ret ?_
              -- returns, path FFFFFT
              refine GE.ret_tmp (L' := L) (.inl rfl) rfl rfl Wsb ?_
              exact ⟨by simp [joinI, *], rfl⟩
            · -- FFFFFF
              refine GC.skip ?_
              refine GE.seq ?_
              refine GC.seq ?_
              refine GC.region ?_
              refine GL.v Wag ?_
              refine GL.nil ?_
              refine GE.seq ?_
              refine GC.ret ?_
              -- returns, path FFFFFF
              refine GE.ret_tmp (L' := L) (.inl rfl) rfl rfl Wsb ?_
              exact ⟨by simp [joinI, *], rfl⟩
theorem reckoned_spec (w0 : World) (L : List Asn) (A : Option Addr) (c : Nat) (ps : List Part) (hR : Rd w0 L partE A c ps) (B : Option Addr) (d : Nat) (xs : List Int) (hX : Rd w0 L intE B d xs) (hf : FitV ps xs) :
    ∀ (i : Nat) (hi : i < ps.length) (X : List Asn) (hi' : Imp w0 X L) (k : Int) (hk : k = i),
    Tr Try.prog 155 #[.agg #[.slice A ps.length c], .slice B xs.length d, .int .i64 k] w0 X (fun v L' => ∃ B' d', v = .tuple #[.int .i64 (evL ps (valF xs) i).1, .slice B' (evL ps (valF xs) i).2.length d'] ∧ L' = row intE B' d' (evL ps (valF xs) i).2 :: X) := by
  have hv := hf.1.2.2.1
  have hl2 := hf.1.2.1
  have hxl := hf.2.1
  intro i
  induction i using Nat.strongRecOn with
  | _ i ih =>
    intro hi X hIX k hk
    subst hk
    have hg := hv i hi
    have hRX := hR.imp hIX
    have hXX := hX.imp hIX
    have hin := fun j hj => evL_in (vals := valF xs) hv hf.vals j hj
    have hlen : ∀ j, j < ps.length → (evL ps (valF xs) j).2.length ≤ 4096 := fun j hj => Nat.le_trans (evL_len hv j hj) (by have := Nat.pow_le_pow_right (show 0 < 2 by decide) (show j ≤ 12 by omega); omega)
    refine Tr.enter (args := [.agg #[.slice A ps.length c], .slice B xs.length d, .int .i64 i]) Try.func155 Try.ntmps155 rfl rfl ?_
    refine GC.seq ?_
    refine GC.region ?_
    refine GL.box_agg rfl rfl ?_; intro g3
    refine GL.v Wag ?_
    refine GL.v Wag ?_
    refine GL.nil ?_
    refine GE.seq ?_
    refine GC.seq ?_
    refine GC.region ?_
    refine GL.v Wfa ?_
    refine GL.v Wlb ?_
    refine GL.v Wmv ?_
    refine GL.v Wix ?_
    refine GL.v Wle ?_
    refine GL.alloc rfl ?_; intro g8
    refine GL.store_varN rfl rfl rfl Wpk (by rfl) (by rfl) (by rfl) ?_
    refine GL.nil ?_
    refine GE.seq ?_
    refine GC.seq ?_
    refine GC.seq ?_
    refine GC.region ?_
    refine GL.v Wfa ?_
    refine GL.v Wlb ?_
    refine GL.nil ?_
    refine GE.seq ?_
    refine GC.block ?_
    refine GC.seq ?_
    refine GC.region ?_
    refine GL.v Weq ?_
    refine GL.v Wag ?_
    refine GL.nil ?_
    refine GE.seq ?_
    refine GC.ifs (fun h1 => ?_) (fun h1 => ?_)
    · -- T
      refine GC.seq ?_
      refine GC.region ?_
      refine GL.v Wfa ?_
      refine GL.v Wlb ?_
      refine GL.buildSlice rfl (by first | exact bsInt0 | exact bsInt1 _ | exact bsInt2 _ _ | exact bsInt3 _ _ _ | exact bsInt4 _ _ _ _ | exact bsInt5 _ _ _ _ _ | exact bsInt6 _ _ _ _ _ _ | exact bsInt7 _ _ _ _ _ _ _ | exact bsInt8 _ _ _ _ _ _ _ _ | exact bsInt9 _ _ _ _ _ _ _ _ _ | exact bsInt10 _ _ _ _ _ _ _ _ _ _ | exact bsPart0 | exact bsPart1 ⟨_, _, _, _, _⟩ | exact bsNode1 ⟨_, _, _, _⟩ | exact bsPtr3 _ _ _ | exact bsSl0 | exact bsSl1 ⟨_, _, _⟩) rfl (by decide) rfl ?_; intro g27
      refine GL.v Wag ?_
      refine GL.v Wag ?_
      refine GL.nil ?_
      refine GE.seq ?_
      refine GC.ret ?_
      refine GE.block_ret ?_
      refine GE.seq_ret ?_
      -- returns, path T
      refine GE.ret_tmp2 (L' := row intE (some ⟨g27, 0, none⟩) 0 [] :: X) (.inl rfl) rfl rfl rfl Wsb ?_
      rw [evL_num hi h1]
      exact ⟨_, _, rfl, rfl⟩
    · -- F
      refine GC.seq ?_
      refine GC.region ?_
      refine GL.v Weq ?_
      refine GL.v Wag ?_
      refine GL.nil ?_
      refine GE.seq ?_
      refine GC.ifs (fun h2 => ?_) (fun h2 => ?_)
      · -- FT
        have hgv := hf.give ⟨_, List.getElem_mem hi, h2, rfl⟩
        refine GC.seq ?_
        refine GC.region_any #[false, false, false, false, false, false, false, true, false, false] mixed ?_
        refine GA.take 0 #[false, true, true, false, false, true, true, true, false, false] rfl (by exact Ev.move rfl) rfl rfl (by kernel_rfl) rfl (by kernel_rfl) (by kernel_rfl) (fun _ _ _ h => h) ?_
        refine GA.take 1 #[true, false, false, false, false, true, true, true, false, false] rfl (by exact Ev.fieldAddr rfl) rfl rfl (by kernel_rfl) rfl (by kernel_rfl) (by kernel_rfl) (fun _ _ _ h => h) ?_
        refine GA.read 2 #[true, true, false, false, false, true, true, true, false, false] rfl (by exact Wlb) rfl rfl (by kernel_rfl) rfl (by kernel_rfl) (by kernel_rfl) (fun _ _ _ h => h) ?_
        refine GA.read 3 #[true, true, true, false, false, true, true, true, false, false] rfl (by exact Wix) rfl rfl (by kernel_rfl) rfl (by kernel_rfl) (by kernel_rfl) (fun _ _ _ h => h) ?_
        refine GA.read 4 #[true, true, true, true, false, true, true, true, false, false] rfl (by exact Wle) rfl rfl (by kernel_rfl) rfl (by kernel_rfl) (by kernel_rfl) (fun _ _ _ h => h) ?_
        refine GA.take 5 #[true, true, true, true, true, false, false, false, true, false] rfl (by exact Ev.fieldAddr rfl) rfl rfl (by kernel_rfl) rfl (by kernel_rfl) (by kernel_rfl) (fun _ _ _ h => h) ?_
        refine GA.read 6 #[true, true, true, true, true, true, false, false, true, false] rfl (by exact Wlb) rfl rfl (by kernel_rfl) rfl (by kernel_rfl) (by kernel_rfl) (fun _ _ _ h => h) ?_
        refine GA.take 8 #[true, true, true, true, true, true, true, true, false, false] rfl (by exact Ev.assign rfl) rfl rfl (by kernel_rfl) rfl (by kernel_rfl) (by kernel_rfl) (fun _ _ _ h => h) ?_
        refine GA.branch (rs := [7]) (JOk.live (by exact Wlb) (JOk.live (by exact Wle) (JOk.live (by exact Wix) (JOk.live (by exact Wlb) JOk.nil)))) (by kernel_rfl) (by simp) ?_
        refine GAs.cons rfl ?_ ?_
        · -- FT op 7
          refine GL.buildSlice rfl (by first | exact bsInt0 | exact bsInt1 _ | exact bsInt2 _ _ | exact bsInt3 _ _ _ | exact bsInt4 _ _ _ _ | exact bsInt5 _ _ _ _ _ | exact bsInt6 _ _ _ _ _ _ | exact bsInt7 _ _ _ _ _ _ _ | exact bsInt8 _ _ _ _ _ _ _ _ | exact bsInt9 _ _ _ _ _ _ _ _ _ | exact bsInt10 _ _ _ _ _ _ _ _ _ _ | exact bsPart0 | exact bsPart1 ⟨_, _, _, _, _⟩ | exact bsNode1 ⟨_, _, _, _⟩ | exact bsPtr3 _ _ _ | exact bsSl0 | exact bsSl1 ⟨_, _, _⟩) rfl (by decide) rfl ?_; intro g37
          refine GL.nil ?_
          refine GE.any ?_
          refine GA.take 9 #[true, true, true, true, true, true, true, true, true, false] rfl (by exact Ev.assign rfl) rfl rfl (by kernel_rfl) rfl (by kernel_rfl) (by kernel_rfl) (fun _ _ _ h => h) ?_
          refine GA.done (JOk.dead (by kernel_rfl) (JOk.live (by exact Wle) (JOk.live (by exact Wix) (JOk.live (by exact Wlb) JOk.nil)))) (by kernel_rfl) ?_
          refine GE.seq ?_
          refine GC.ret ?_
          refine GE.block_ret ?_
          refine GE.seq_ret ?_
          -- returns, path FT
          refine GE.ret_tmp2 (L' := row intE (some ⟨g37, 0, none⟩) 1 [ps[i].n] :: X) (.inl rfl) rfl rfl rfl Wsb ?_
          rw [evL_read hi h2, at0_eq]
          exact ⟨_, _, rfl, rfl⟩
        exact GAs.nil
      · -- FF
        have hab : (0 ≤ ps[i].a ∧ ps[i].a < i) ∧ (0 ≤ ps[i].b ∧ ps[i].b < i) := by
          by_cases h8 : ps[i].kind = 8
          · have := good_if hg h8; omega
          · have := good_bin hg h1 h2 h8; omega
        refine GC.skip ?_
        refine GE.block ?_
        refine GE.seq ?_
        refine GC.seq ?_
        refine GC.region ?_
        refine GL.v Wlba ?_
        refine GL.v Wmv ?_
        refine GL.v Wfa ?_
        refine GL.v Wlb ?_
        refine GL.call rfl rfl (ih ps[i].a.toNat (by omega) (by omega) _ (by repeat (first | exact hIX | refine Imp.cons ?_)) _ (by omega)) ?_
        rintro _ _ ⟨B1, d1, rfl, rfl⟩
        have hla := hlen ps[i].a.toNat (by omega)
        have hja := hin ps[i].a.toNat (by omega)
        refine GL.v Wmv ?_
        refine GL.v Wxt ?_
        refine GL.v Wxt ?_
        refine GL.v Wag ?_
        refine GL.v Wag ?_
        refine GL.nil ?_
        refine GE.seq ?_
        refine GC.seq ?_
        refine GC.seq ?_
        refine GC.region ?_
        refine GL.v Wfa ?_
        refine GL.v Wlb ?_
        refine GL.v Weq ?_
        refine GL.nil ?_
        refine GE.seq ?_
        refine GC.ifs (fun h3 => ?_) (fun h3 => ?_)
        · -- FFT
          have hc3 := (good_if hg h3).2.2.2
          refine GC.seq ?_
          refine GC.region ?_
          refine GL.v Wfa ?_
          refine GL.v Wlb ?_
          refine GL.v Wag ?_
          refine GL.nil ?_
          refine GE.seq ?_
          refine GC.seq ?_
          refine GC.seq ?_
          refine GC.region ?_
          refine GL.v Wmv ?_
          refine GL.v Weq ?_
          refine GL.nil ?_
          refine GE.seq ?_
          refine GC.ifs (fun h4 => ?_) (fun h4 => ?_)
          · -- FFTT
            have hlc := hlen ps[i].c.toNat (by omega)
            refine GC.region ?_
            refine GL.v Wfa ?_
            refine GL.v Wlb ?_
            refine GL.v Wag ?_
            refine GL.nil ?_
            refine GE.seq ?_
            refine GC.seq ?_
            refine GC.region ?_
            refine GL.v Wlba ?_
            refine GL.v Wmv ?_
            refine GL.v Wmv ?_
            first | (refine GL.call rfl rfl (ih ps[i].c.toNat (by omega) (by omega) _ (by repeat (first | exact hIX | refine Imp.cons ?_)) _ (by show ps[i].c = _; omega)) ?_; rintro _ _ ⟨B2, d2, rfl, rfl⟩) | (refine GL.call rfl rfl (ih ps[i].b.toNat (by omega) (by omega) _ (by repeat (first | exact hIX | refine Imp.cons ?_)) _ (by show ps[i].b = _; omega)) ?_; rintro _ _ ⟨B2, d2, rfl, rfl⟩)
            refine GL.v Wmv ?_
            refine GL.v Wxt ?_
            refine GL.v Wxt ?_
            refine GL.v Wag ?_
            refine GL.v Wag ?_
            refine GL.nil ?_
            refine GE.seq ?_
            refine GC.seq ?_
            refine GC.region ?_
            refine GL.v Wmv ?_
            refine GL.v Wmv ?_
            refine GL.v Wmv ?_
            first | (refine GL.append rfl rfl Wpk (by assumption) Wim (by first | rfl | (simp; done) | (simp; omega)) (by first | rfl | (simp; done) | (simp; omega)) (by first | omega | (simp; omega)) (by first | omega | (simp; omega)) rfl ?_; intro A65 c65) | (refine GL.append rfl rfl Wpk (Rd.of_pick Wpk) Imp.refl (by first | rfl | (simp; done) | (simp; omega)) (by first | rfl | (simp; done) | (simp; omega)) (by first | omega | (simp; omega)) (by first | omega | (simp; omega)) rfl ?_; intro A65 c65)
            refine GL.v Wag ?_
            refine GL.v Wag ?_
            refine GL.nil ?_
            refine GE.seq ?_
            refine GC.ret ?_
            refine GE.seq_ret ?_
            -- returns, path FFTT
            refine GE.ret_tmp2 (L' := row intE A65 c65 ((evL ps (valF xs) ps[i].a.toNat).2 ++ _) :: X) (.inl rfl) rfl rfl rfl Wsb ?_
            rw [evL_else hi hg h3 h4]
            exact ⟨_, _, rfl, rfl⟩
          · -- FFTF
            have hlc := hlen ps[i].b.toNat (by omega)
            refine GC.skip ?_
            refine GE.seq ?_
            refine GC.seq ?_
            refine GC.region ?_
            refine GL.v Wlba ?_
            refine GL.v Wmv ?_
            refine GL.v Wmv ?_
            first | (refine GL.call rfl rfl (ih ps[i].c.toNat (by omega) (by omega) _ (by repeat (first | exact hIX | refine Imp.cons ?_)) _ (by show ps[i].c = _; omega)) ?_; rintro _ _ ⟨B2, d2, rfl, rfl⟩) | (refine GL.call rfl rfl (ih ps[i].b.toNat (by omega) (by omega) _ (by repeat (first | exact hIX | refine Imp.cons ?_)) _ (by show ps[i].b = _; omega)) ?_; rintro _ _ ⟨B2, d2, rfl, rfl⟩)
            refine GL.v Wmv ?_
            refine GL.v Wxt ?_
            refine GL.v Wxt ?_
            refine GL.v Wag ?_
            refine GL.v Wag ?_
            refine GL.nil ?_
            refine GE.seq ?_
            refine GC.seq ?_
            refine GC.region ?_
            refine GL.v Wmv ?_
            refine GL.v Wmv ?_
            refine GL.v Wmv ?_
            first | (refine GL.append rfl rfl Wpk (by assumption) Wim (by first | rfl | (simp; done) | (simp; omega)) (by first | rfl | (simp; done) | (simp; omega)) (by first | omega | (simp; omega)) (by first | omega | (simp; omega)) rfl ?_; intro A65 c65) | (refine GL.append rfl rfl Wpk (Rd.of_pick Wpk) Imp.refl (by first | rfl | (simp; done) | (simp; omega)) (by first | rfl | (simp; done) | (simp; omega)) (by first | omega | (simp; omega)) (by first | omega | (simp; omega)) rfl ?_; intro A65 c65)
            refine GL.v Wag ?_
            refine GL.v Wag ?_
            refine GL.nil ?_
            refine GE.seq ?_
            refine GC.ret ?_
            refine GE.seq_ret ?_
            -- returns, path FFTF
            refine GE.ret_tmp2 (L' := row intE A65 c65 ((evL ps (valF xs) ps[i].a.toNat).2 ++ _) :: X) (.inl rfl) rfl rfl rfl Wsb ?_
            rw [evL_if hi hg h3 h4]
            exact ⟨_, _, rfl, rfl⟩
        · -- FFF
          refine GC.skip ?_
          refine GE.seq ?_
          refine GC.seq ?_
          refine GC.region ?_
          refine GL.v Wlba ?_
          refine GL.v Wmv ?_
          refine GL.v Wfa ?_
          refine GL.v Wlb ?_
          refine GL.call rfl rfl (ih ps[i].b.toNat (by omega) (by omega) _ (by repeat (first | exact hIX | refine Imp.cons ?_)) _ (by omega)) ?_
          rintro _ _ ⟨B2, d2, rfl, rfl⟩
          have hlb := hlen ps[i].b.toNat (by omega)
          have hjb := hin ps[i].b.toNat (by omega)
          refine GL.v Wmv ?_
          refine GL.v Wxt ?_
          refine GL.v Wxt ?_
          refine GL.v Wag ?_
          refine GL.v Wag ?_
          refine GL.nil ?_
          refine GE.seq ?_
          refine GC.seq ?_
          refine GC.region ?_
          refine GL.v Wfa ?_
          refine GL.v Wlb ?_
          refine GL.v Wmv ?_
          refine GL.v Wmv ?_
          refine GL.callF rfl rfl (joined_spec _ _ _ _ _ (by assumption) (by assumption)) ?_
          refine GL.v Wmv ?_
          refine GL.v Wmv ?_
          first | (refine GL.append rfl rfl Wpk (by assumption) Wim (by first | rfl | (simp; done) | (simp; omega)) (by first | rfl | (simp; done) | (simp; omega)) (by first | omega | (simp; omega)) (by first | omega | (simp; omega)) rfl ?_; intro A81 c81) | (refine GL.append rfl rfl Wpk (Rd.of_pick Wpk) Imp.refl (by first | rfl | (simp; done) | (simp; omega)) (by first | rfl | (simp; done) | (simp; omega)) (by first | omega | (simp; omega)) (by first | omega | (simp; omega)) rfl ?_; intro A81 c81)
          refine GL.v Wag ?_
          refine GL.v Wag ?_
          refine GL.nil ?_
          refine GE.seq ?_
          refine GC.ret ?_
          -- returns, path FFF
          refine GE.ret_tmp2 (L' := row intE A81 c81 ((evL ps (valF xs) ps[i].a.toNat).2 ++ (evL ps (valF xs) ps[i].b.toNat).2) :: X) (.inl rfl) rfl rfl rfl Wsb ?_
          rw [evL_bin hi hg h1 h2 h3]
          exact ⟨_, _, rfl, rfl⟩
theorem firstOnly_spec (w0 : World) (L : List Asn) (A : Option Addr) (c : Nat) (xs : List Int) (hX : Rd w0 L intE A c xs) (hl : xs.length ≤ 10000) :
    Tr Try.prog 156 #[.slice A xs.length c] w0 L (fun v L' => ∃ B d, v = .slice B (addAll [] xs).length d ∧ L' = row intE B d (addAll [] xs) :: L) := by
  refine Tr.enter (args := [.slice A xs.length c]) Try.func156 Try.ntmps156 rfl rfl ?_
  refine GC.seq ?_
  refine GC.region ?_
  refine GL.v Wag ?_
  refine GL.nil ?_
  refine GE.seq ?_
  refine GC.seq ?_
  refine GC.region ?_
  refine GL.buildSlice rfl (by first | exact bsInt0 | exact bsInt1 _ | exact bsInt2 _ _ | exact bsInt3 _ _ _ | exact bsInt4 _ _ _ _ | exact bsInt5 _ _ _ _ _ | exact bsInt6 _ _ _ _ _ _ | exact bsInt7 _ _ _ _ _ _ _ | exact bsInt8 _ _ _ _ _ _ _ _ | exact bsInt9 _ _ _ _ _ _ _ _ _ | exact bsInt10 _ _ _ _ _ _ _ _ _ _ | exact bsPart0 | exact bsPart1 ⟨_, _, _, _, _⟩ | exact bsNode1 ⟨_, _, _, _⟩ | exact bsPtr3 _ _ _ | exact bsSl0 | exact bsSl1 ⟨_, _, _⟩) rfl (by decide) rfl ?_; intro g5
  refine GL.v Wag ?_
  refine GL.nil ?_
  refine GE.seq ?_
  refine GC.seq ?_
  refine GC.seq ?_
  refine GC.region ?_
  refine GL.v Wag ?_
  refine GL.nil ?_
  refine GE.seq ?_
  refine GC.block ?_
  -- loop 1: carried slots [3, 4]
  refine GC.loopK (α := Nat × Option Addr × Nat) (fun x => x.1 ≤ xs.length) (fun x => [(3, .slice x.2.1 (addAll [] (xs.take x.1)).length x.2.2), (4, .int .i64 x.1)]) [(0, _)] (fun x => row intE x.2.1 x.2.2 (addAll [] (xs.take x.1)) :: L) (fun x => xs.length - x.1) (0, some ⟨g5, 0, none⟩, 0) Wkp Wsb (Nat.zero_le _) ?_
  rintro ⟨i, B, d⟩ hi
  dsimp only at hi ⊢
  have hal := addAll_length (xs.take i) []
  rw [List.length_take] at hal
  simp only [List.length_nil] at hal
  refine GC.seq ?_
  refine GC.seq ?_
  refine GC.region ?_
  refine GL.v Wmv ?_
  refine GL.v Wmv ?_
  refine GL.v Wln ?_
  refine GL.v Wls ?_
  refine GL.nil ?_
  refine GE.seq ?_
  refine GC.ifs (fun h1 => ?_) (fun h1 => ?_)
  · -- T
    have hil : i < xs.length := by omega
    have hnx := addAll_take_succ hil
    refine GC.skip ?_
    refine GE.seq ?_
    refine GC.seq ?_
    refine GC.block ?_
    refine GC.seq ?_
    refine GC.region ?_
    refine GL.v Wmv ?_
    refine GL.v Wmv ?_
    refine GL.v Wmv ?_
    refine GL.v Wix ?_
    refine GL.v Wle ?_
    refine GL.call rfl rfl (placeIn_spec _ _ _ _ _ Wrd Wom _) ?_
    rintro _ _ ⟨k17, rfl, hk17, e17⟩
    rw [e17]; clear e17
    refine GL.v Wls ?_
    refine GL.nil ?_
    refine GE.seq ?_
    refine GC.ifs (fun h2 => ?_) (fun h2 => ?_)
    · -- TT
      refine GC.region ?_
      refine GL.v Wmv ?_
      refine GL.v Wmv ?_
      refine GL.v Wmv ?_
      refine GL.v Wix ?_
      refine GL.v Wle ?_
      refine GL.buildSlice rfl (by first | exact bsInt0 | exact bsInt1 _ | exact bsInt2 _ _ | exact bsInt3 _ _ _ | exact bsInt4 _ _ _ _ | exact bsInt5 _ _ _ _ _ | exact bsInt6 _ _ _ _ _ _ | exact bsInt7 _ _ _ _ _ _ _ | exact bsInt8 _ _ _ _ _ _ _ _ | exact bsInt9 _ _ _ _ _ _ _ _ _ | exact bsInt10 _ _ _ _ _ _ _ _ _ _ | exact bsPart0 | exact bsPart1 ⟨_, _, _, _, _⟩ | exact bsNode1 ⟨_, _, _, _⟩ | exact bsPtr3 _ _ _ | exact bsSl0 | exact bsSl1 ⟨_, _, _⟩) rfl (by decide) rfl ?_; intro g24
      first | (refine GL.append rfl rfl Wpk (by assumption) Wim (by first | rfl | (simp; done) | (simp; omega)) (by first | rfl | (simp; done) | (simp; omega)) (by first | omega | (simp; omega)) (by first | omega | (simp; omega)) rfl ?_; intro A25 c25) | (refine GL.append rfl rfl Wpk (Rd.of_pick Wpk) Imp.refl (by first | rfl | (simp; done) | (simp; omega)) (by first | rfl | (simp; done) | (simp; omega)) (by first | omega | (simp; omega)) (by first | omega | (simp; omega)) rfl ?_; intro A25 c25)
      refine GL.v Wag ?_
      refine GL.nil ?_
      refine GE.block ?_
      refine GE.seq ?_
      refine GC.region ?_
      refine GL.v Wmv ?_
      refine GL.v Wad ?_
      refine GL.v Wag ?_
      refine GL.nil ?_
      -- round of loop 1, path TT
      rw [show addR (addAll [] (xs.take i)) xs[i] = addAll [] (xs.take i) ++ [xs[i]] by simp only [addR]; rw [hk17.1 h2]; rfl] at hnx
      rw [← hnx]
      refine GE.round (i + 1, _, _) (by dsimp only; omega) (by dsimp only; omega) Wkp Wsb
    · -- TF
      refine GC.skip ?_
      refine GE.block ?_
      refine GE.seq ?_
      refine GC.region ?_
      refine GL.v Wmv ?_
      refine GL.v Wad ?_
      refine GL.v Wag ?_
      refine GL.nil ?_
      -- round of loop 1, path TF
      rw [show addR (addAll [] (xs.take i)) xs[i] = addAll [] (xs.take i) by (simp only [addR]; rw [if_pos]; cases hc : (addAll [] (xs.take i)).contains xs[i] with | true => rfl | false => exact absurd (hk17.2 hc) h2)] at hnx
      refine GE.round (i + 1, B, d) (by dsimp only; omega) (by dsimp only; omega) (by dsimp only; rw [hnx]; repeat (first | exact Keeps.nil | refine Keeps.cons rfl ?_)) (by dsimp only; rw [hnx]; exact Wsb)
  · -- F
    have hie : i = xs.length := by omega
    subst hie
    rw [List.take_length]
    refine GC.exit ?_
    refine GE.seq_exit ?_
    refine GE.loop_exit ?_
    refine GE.block_exit ?_
    refine GE.seq ?_
    refine GC.seq ?_
    refine GC.region ?_
    refine GL.v Wmv ?_
    refine GL.v Wag ?_
    refine GL.nil ?_
    refine GE.seq ?_
    refine GC.ret ?_
    -- returns, path F
    refine GE.ret_tmp (L' := row intE B d (addAll [] xs) :: L) (.inl rfl) rfl rfl Wsb ?_
    exact ⟨B, d, rfl, rfl⟩
theorem srun_spec (w0 : World) (L : List Asn) (A : Option Addr) (c : Nat) (ps : List Part) (hR : Rd w0 L partE A c ps) (B : Option Addr) (d : Nat) (xs : List Int) (hX : Rd w0 L intE B d xs) (hf : FitV ps xs) :
    Tr Try.prog 121 #[.agg #[.slice A ps.length c], .slice B xs.length d] w0 L (fun v L' => ∃ B' d', v = .tuple #[.int .i64 (valL ps (valF xs)), .slice B' (readL ps (valF xs)).length d'] ∧ L' = row intE B' d' (readL ps (valF xs)) :: L) := by
  have hl1 := hf.1.1
  have hl2 := hf.1.2.1
  have hlen : (evL ps (valF xs) (ps.length - 1)).2.length ≤ 4096 := Nat.le_trans (evL_len hf.1.2.2.1 _ (by omega)) (by have := Nat.pow_le_pow_right (show 0 < 2 by decide) (show ps.length - 1 ≤ 12 by omega); omega)
  refine Tr.enter (args := [.agg #[.slice A ps.length c], .slice B xs.length d]) Try.func121 Try.ntmps121 rfl rfl ?_
  refine GC.seq ?_
  refine GC.region ?_
  refine GL.box_agg rfl rfl ?_; intro g2
  refine GL.v Wag ?_
  refine GL.v Wag ?_
  refine GL.nil ?_
  refine GE.seq ?_
  refine GC.seq ?_
  refine GC.region ?_
  refine GL.v Wlba ?_
  refine GL.v Wmv ?_
  refine GL.v Wfa ?_
  refine GL.v Wlb ?_
  refine GL.v Wln ?_
  refine GL.v Wsu ?_
  refine GL.call rfl rfl (reckoned_spec w0 L A c ps hR B d xs hX hf (ps.length - 1) (by omega) _ Wim _ (by omega)) ?_
  rintro _ _ ⟨B1, d1, rfl, rfl⟩
  refine GL.v Wmv ?_
  refine GL.v Wxt ?_
  refine GL.v Wxt ?_
  refine GL.v Wag ?_
  refine GL.v Wag ?_
  refine GL.nil ?_
  refine GE.seq ?_
  refine GC.seq ?_
  refine GC.region ?_
  refine GL.v Wmv ?_
  refine GL.v Wmv ?_
  refine GL.call rfl rfl (firstOnly_spec w0 _ B1 d1 _ Wrd (by omega)) ?_
  rintro _ _ ⟨B2, d2, rfl, rfl⟩
  refine GL.v Wag ?_
  refine GL.v Wag ?_
  refine GL.nil ?_
  refine GE.seq ?_
  refine GC.ret ?_
  -- returns, path 
  refine GE.ret_tmp2 (L' := row intE B2 d2 (readL ps (valF xs)) :: L) (.inl rfl) rfl rfl rfl Wsb ?_
  exact ⟨B2, d2, rfl, rfl⟩
theorem ReadsOf1_spec (w0 : World) (L : List Asn) (n : Int) (g : Nat) (B : Option Addr) (d : Nat) (xs : List Int) (hb : BlkRd w0 L g 26 [.slice B xs.length d]) (hX : Rd w0 L intE B d xs) (h0 : 0 ≤ n) (h1 : n < xs.length) : Tr Try.prog 82 #[.int .i64 n, .pointer (some ⟨g, 0, none⟩)] w0 L (fun v L' => v = .int .i64 (valF xs n) ∧ L' = L) := by
  refine Tr.enter (args := [.int .i64 n, .pointer (some ⟨g, 0, none⟩)]) Try.func82 Try.ntmps82 rfl rfl ?_
  refine GC.seq ?_
  refine GC.region ?_
  refine GL.v Wag ?_
  refine GL.nil ?_
  refine GE.seq ?_
  refine GC.seq ?_
  refine GC.region ?_
  refine GL.v Wlb ?_
  refine GL.v Wmv ?_
  refine GL.v Wix ?_
  refine GL.v Wle ?_
  refine GL.v Wag ?_
  refine GL.nil ?_
  refine GE.seq ?_
  refine GC.ret ?_
  -- returns, path 
  refine GE.ret_tmp (L' := L) (.inl rfl) rfl rfl Wsb ?_
  exact ⟨by rw [at0_eq]; rfl, rfl⟩
theorem iReadsOf_spec (w0 : World) (L : List Asn) (A : Option Addr) (c : Nat) (ps : List Part) (hR : Rd w0 L partE A c ps) (B : Option Addr) (d : Nat) (xs : List Int) (hX : Rd w0 L intE B d xs) (hl : xs.length ≤ 1100000) :
    Tr Try.prog 26 #[.agg #[.slice A ps.length c], .slice B xs.length d] w0 L (fun v L' => ∃ B' d', v = .slice B' (rdsL ps xs).length d' ∧ L' = row intE B' d' (rdsL ps xs) :: L) := by
  refine Tr.enter (args := [.agg #[.slice A ps.length c], .slice B xs.length d]) Try.func26 Try.ntmps26 rfl rfl ?_
  refine GC.seq ?_
  refine GC.region ?_
  refine GL.box_agg rfl rfl ?_; intro g2
  refine GL.box_one rfl rfl rfl ?_; intro g3
  refine GL.v Wag ?_
  refine GL.nil ?_
  refine GE.seq ?_
  refine GC.seq ?_
  refine GC.seq ?_
  refine GC.region ?_
  refine GL.v Wlba ?_
  refine GL.v Wlb ?_
  refine GL.callF rfl rfl (valuesFit_spec _ _ _ _ _ Wrd _ _ _ Wrd Wom) ?_
  refine GL.v Wnt ?_
  refine GL.nil ?_
  refine GE.seq ?_
  refine GC.ifs (fun h1 => ?_) (fun h1 => ?_)
  · -- T
    refine GC.seq ?_
    refine GC.region ?_
    refine GL.v Wag ?_
    refine GL.nil ?_
    refine GE.seq ?_
    refine GC.ret ?_
    refine GE.seq_ret ?_
    -- returns, path T
    refine GE.state (fun _ hs => hs.empty intE none) ?_
    refine GE.ret_tmp (L' := row intE none 0 [] :: L) (.inl rfl) rfl rfl Wsb ?_
    rw [show rdsL ps xs = [] by rw [rdsL, if_neg]; rw [h1]; simp]
    exact ⟨none, 0, rfl, rfl⟩
  · -- F
    have hf := fitV_iff.1 h1
    refine GC.skip ?_
    refine GE.seq ?_
    refine GC.seq ?_
    refine GC.region ?_
    refine GL.v Wlba ?_
    refine GL.v (by exact EvP.r (Ev.makeFunc rfl rfl)) ?_
    refine GL.call rfl rfl (run_spec w0 _ A c ps (hR.imp Wim) hf.1 _ _ _ (valF xs) (fun Y hY n hn => ReadsOf1_spec _ _ _ g3 B d xs ((BlkRd.of_pick Wpk).imp hY) ((hX.imp Wim).imp hY) (hf.give hn).1 (hf.give hn).2) hf.vals) ?_
    rintro _ _ ⟨B1, rfl, rfl⟩
    refine GL.v Wmv ?_
    refine GL.v Wxt ?_
    refine GL.v Wxt ?_
    refine GL.v Wag ?_
    refine GL.v Wag ?_
    refine GL.nil ?_
    refine GE.seq ?_
    refine GC.seq ?_
    refine GC.region ?_
    refine GL.v Wmv ?_
    refine GL.v Wag ?_
    refine GL.nil ?_
    refine GE.seq ?_
    refine GC.ret ?_
    -- returns, path F
    refine GE.ret_tmp (L' := row intE B1 (readL ps (valF xs)).length (readL ps (valF xs)) :: L) (.inl rfl) rfl rfl Wsb ?_
    rw [show rdsL ps xs = readL ps (valF xs) by rw [rdsL, if_pos h1]]
    exact ⟨_, _, rfl, rfl⟩
end SG
