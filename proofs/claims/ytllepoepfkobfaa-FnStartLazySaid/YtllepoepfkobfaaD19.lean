/- Contracts: the laws' own looks at lists, and their marks. -/
import Derived.Test.YtllepoepfkobfaaD13
namespace SG
open Go Go.RowKit Go.Proofs
set_option linter.unusedVariables false
set_option linter.unusedSimpArgs false
set_option maxRecDepth 100000
theorem isIn_spec (w0 : World) (L : List Asn) (A : Option Addr) (c : Nat) (xs : List Int) (hX : Rd w0 L intE A c xs) (n : Int) (hl : xs.length ≤ 1100000) :
    Tr Try.prog 43 #[.slice A xs.length c, .int .i64 n] w0 L (fun v L' => v = .bool (xs.contains n) ∧ L' = L) := by
  refine Tr.enter (args := [.slice A xs.length c, .int .i64 n]) Try.func43 Try.ntmps43 rfl rfl ?_
  refine GC.seq ?_
  refine GC.region ?_
  refine GL.v Wag ?_
  refine GL.nil ?_
  refine GE.seq ?_
  refine GC.seq ?_
  refine GC.seq ?_
  refine GC.region ?_
  refine GL.v Wag ?_
  refine GL.nil ?_
  refine GE.seq ?_
  refine GC.block ?_
  -- loop 1: carried slots [5]
  refine GC.loopK (α := Nat) (fun i => i ≤ xs.length ∧ ∀ j (h : j < i) (h' : j < xs.length), xs[j] ≠ n) (fun i => [(5, .int .i64 i)]) [(0, _), (1, _)] (fun i => L) (fun i => xs.length - i) 0 Wkp Wsb ⟨Nat.zero_le _, fun _ h => by omega⟩ ?_
  rintro i ⟨hi, hno⟩
  refine GC.seq ?_
  refine GC.seq ?_
  refine GC.region ?_
  refine GL.v Wmv ?_
  refine GL.v Wmv ?_
  refine GL.v Wln ?_
  refine GL.v Wls ?_
  refine GL.nil ?_
  refine GE.seq ?_
  refine GC.ifs (fun h1 => ?_) (fun h1 => ?_)
  · -- T
    have hil : i < xs.length := by omega
    refine GC.skip ?_
    refine GE.seq ?_
    refine GC.seq ?_
    refine GC.block ?_
    refine GC.seq ?_
    refine GC.region ?_
    refine GL.v Wmv ?_
    refine GL.v Wmv ?_
    refine GL.v Wix ?_
    refine GL.v Wle ?_
    refine GL.v Wmv ?_
    refine GL.v Weq ?_
    refine GL.nil ?_
    refine GE.seq ?_
    refine GC.ifs (fun h2 => ?_) (fun h2 => ?_)
    · -- TT
      refine GC.seq ?_
      refine GC.region ?_
      refine GL.v Wag ?_
      refine GL.nil ?_
      refine GE.seq ?_
      refine GC.ret ?_
      refine GE.block_ret ?_
      refine GE.seq_ret ?_
      refine GE.loop_ret ?_
      refine GE.block_ret ?_
      refine GE.seq_ret ?_
      -- returns, path TT
      refine GE.ret_tmp (L' := L) (.inl rfl) rfl rfl Wsb ?_
      exact ⟨by rw [show xs.contains n = true by rw [← h2]; simp], rfl⟩
    · -- TF
      refine GC.skip ?_
      refine GE.block ?_
      refine GE.seq ?_
      refine GC.region ?_
      refine GL.v Wmv ?_
      refine GL.v Wad ?_
      refine GL.v Wag ?_
      refine GL.nil ?_
      -- round of loop 1, path TF
      refine GE.round (i + 1) ⟨by omega, fun j h h' => ?_⟩ (by omega) Wkp Wsb
      by_cases e : j = i
      · subst e; exact h2
      · exact hno j (by omega) h'
  · -- F
    refine GC.exit ?_
    refine GE.seq_exit ?_
    refine GE.loop_exit ?_
    refine GE.block_exit ?_
    refine GE.seq ?_
    refine GC.seq ?_
    refine GC.region ?_
    refine GL.v Wag ?_
    refine GL.nil ?_
    refine GE.seq ?_
    refine GC.ret ?_
    -- returns, path F
    refine GE.ret_tmp (L' := L) (.inl rfl) rfl rfl Wsb ?_
    refine ⟨?_, rfl⟩
    cases hc : xs.contains n with
    | false => rfl
    | true =>
      obtain ⟨j, hj, e⟩ := List.mem_iff_getElem.1 (show n ∈ xs by simpa using hc)
      exact absurd e (hno j (by omega) hj)
/-- the marks of numbers -/
def marked (k : Int) (n : Nat) : List Int := (List.range n).map (fun (j : Nat) => k + j)
@[simp] theorem marked_length (k : Int) (n : Nat) : (marked k n).length = n := by simp [marked]
theorem marked_get (k : Int) (n j : Nat) (h : j < (marked k n).length) : (marked k n)[j] = k + j := by simp [marked]
theorem markIntS_spec (w0 : World) (L : List Asn) (A : Option Addr) (c : Nat) (xs : List Int) (k : Int) (h0 : 0 ≤ k) (h1 : k ≤ 9000000000000000) (hl : xs.length ≤ 1100000) :
    Tr Try.prog 33 #[.slice A xs.length c, .int .i64 k] w0 (row intE A c xs :: L) (fun v L' => v = .int .i64 (k + xs.length) ∧ L' = row intE A c (marked k xs.length) :: L) := by
  refine Tr.enter (args := [.slice A xs.length c, .int .i64 k]) Try.func33 Try.ntmps33 rfl rfl ?_
  refine GC.seq ?_
  refine GC.region ?_
  refine GL.v Wag ?_
  refine GL.nil ?_
  refine GE.seq ?_
  refine GC.seq ?_
  refine GC.seq ?_
  refine GC.region ?_
  refine GL.v Wag ?_
  refine GL.nil ?_
  refine GE.seq ?_
  refine GC.block ?_
  -- loop 1: carried slots [1, 5]
  refine GC.loopK (α := Nat × List Int) (fun x => x.1 ≤ xs.length ∧ x.2.length = xs.length ∧ ∀ j (h : j < x.1) (h' : j < x.2.length), x.2[j] = k + j) (fun x => [(1, .int .i64 (k + x.1)), (5, .int .i64 x.1)]) [(0, _)] (fun x => row intE A c x.2 :: L) (fun x => xs.length - x.1) (0, xs) (by refine Keeps.cons (by simp; rfl) ?_; repeat (first | exact Keeps.nil | refine Keeps.cons rfl ?_)) Wsb ⟨Nat.zero_le _, rfl, fun _ h => by dsimp only at h; omega⟩ ?_
  rintro ⟨i, ys⟩ ⟨hi, hy, hm⟩
  dsimp only at hi hy hm ⊢
  rw [← hy]
  refine GC.seq ?_
  refine GC.seq ?_
  refine GC.region ?_
  refine GL.v Wmv ?_
  refine GL.v Wmv ?_
  refine GL.v Wln ?_
  refine GL.v Wls ?_
  refine GL.nil ?_
  refine GE.seq ?_
  refine GC.ifs (fun h1 => ?_) (fun h1 => ?_)
  · -- T
    have hil : i < ys.length := by omega
    refine GC.skip ?_
    refine GE.seq ?_
    refine GC.seq ?_
    refine GC.block ?_
    refine GC.seq ?_
    refine GC.region ?_
    refine GL.v Wmv ?_
    refine GL.v Wmv ?_
    refine GL.v Wmv ?_
    refine GL.v Wix ?_
    refine GL.store_el rfl rfl Wpk rfl rfl rfl (by first | omega | (simp; done) | (simp; omega)) ?_
    refine GL.nil ?_
    refine GE.seq ?_
    refine GC.region ?_
    refine GL.v Wmv ?_
    refine GL.v Wad ?_
    refine GL.v Wag ?_
    refine GL.nil ?_
    refine GE.block ?_
    refine GE.seq ?_
    refine GC.region ?_
    refine GL.v Wmv ?_
    refine GL.v Wad ?_
    refine GL.v Wag ?_
    refine GL.nil ?_
    -- round of loop 1, path T
    refine GE.round (i + 1, ys.set i (k + i)) ⟨by dsimp only; omega, by simp, fun j h h' => ?_⟩ (by dsimp only; omega) (by dsimp only; rw [show k + (i : Int) + 1 = k + ((i + 1 : Nat) : Int) by omega]; repeat (first | exact Keeps.nil | refine Keeps.cons rfl ?_)) Wsb
    dsimp only
    rw [List.getElem_set]
    split
    · omega
    · exact hm j (by omega) _
  · -- F
    have hie : i = ys.length := by omega
    have he : ys = marked k ys.length := List.ext_getElem (by simp) fun j h h' => by rw [marked_get]; exact hm j (by omega) h
    refine GC.exit ?_
    refine GE.seq_exit ?_
    refine GE.loop_exit ?_
    refine GE.block_exit ?_
    refine GE.seq ?_
    refine GC.seq ?_
    refine GC.region ?_
    refine GL.v Wmv ?_
    refine GL.v Wag ?_
    refine GL.nil ?_
    refine GE.seq ?_
    refine GC.ret ?_
    -- returns, path F
    refine GE.ret_tmp (L' := row intE A c ys :: L) (.inl rfl) rfl rfl Wsb ?_
    exact ⟨by rw [hie], by rw [← he]⟩
theorem heldIntS_spec (w0 : World) (L : List Asn) (A : Option Addr) (c : Nat) (k : Int) (n : Nat) (hX : Rd w0 L intE A c (marked k n)) (h0 : 0 ≤ k) (h1 : k ≤ 9000000000000000) (hl : n ≤ 1100000) :
    Tr Try.prog 35 #[.slice A n c, .int .i64 k] w0 L (fun v L' => v = .int .i64 (k + n) ∧ L' = L) := by
  have hml := marked_length k n
  refine Tr.enter (args := [.slice A n c, .int .i64 k]) Try.func35 Try.ntmps35 rfl rfl ?_
  refine GC.seq ?_
  refine GC.region ?_
  refine GL.v Wag ?_
  refine GL.nil ?_
  refine GE.seq ?_
  refine GC.seq ?_
  refine GC.seq ?_
  refine GC.region ?_
  refine GL.v Wag ?_
  refine GL.nil ?_
  refine GE.seq ?_
  refine GC.block ?_
  -- loop 1: carried slots [1, 5]
  refine GC.loopK (α := Nat) (fun i => i ≤ n) (fun i => [(1, .int .i64 (k + i)), (5, .int .i64 i)]) [(0, _)] (fun i => L) (fun i => n - i) 0 (by refine Keeps.cons (by simp; rfl) ?_; repeat (first | exact Keeps.nil | refine Keeps.cons rfl ?_)) Wsb (Nat.zero_le _) ?_
  rintro i hi
  refine GC.seq ?_
  refine GC.seq ?_
  refine GC.region ?_
  refine GL.v Wmv ?_
  refine GL.v Wmv ?_
  refine GL.v Wln ?_
  refine GL.v Wls ?_
  refine GL.nil ?_
  refine GE.seq ?_
  refine GC.ifs (fun h1 => ?_) (fun h1 => ?_)
  · -- T
    have hil : i < n := by omega
    refine GC.skip ?_
    refine GE.seq ?_
    refine GC.seq ?_
    refine GC.block ?_
    refine GC.seq ?_
    refine GC.seq ?_
    refine GC.region ?_
    refine GL.v Wmv ?_
    refine GL.v Wmv ?_
    refine GL.v Wix ?_
    refine GL.v Wle ?_
    refine GL.v Wmv ?_
    refine GL.v Wnq ?_
    refine GL.nil ?_
    refine GE.seq ?_
    refine GC.ifs (fun h2 => ?_) (fun h2 => ?_)
    · -- TT
      exact absurd (marked_get k n i (by omega)) h2
    · -- TF
      refine GC.skip ?_
      refine GE.seq ?_
      refine GC.region ?_
      refine GL.v Wmv ?_
      refine GL.v Wad ?_
      refine GL.v Wag ?_
      refine GL.nil ?_
      refine GE.block ?_
      refine GE.seq ?_
      refine GC.region ?_
      refine GL.v Wmv ?_
      refine GL.v Wad ?_
      refine GL.v Wag ?_
      refine GL.nil ?_
      -- round of loop 1, path TF
      refine GE.round (i + 1) (by omega) (by omega) (by rw [show k + (i : Int) + 1 = k + ((i + 1 : Nat) : Int) by omega]; repeat (first | exact Keeps.nil | refine Keeps.cons rfl ?_)) Wsb
  · -- F
    refine GC.exit ?_
    refine GE.seq_exit ?_
    refine GE.loop_exit ?_
    refine GE.block_exit ?_
    refine GE.seq ?_
    refine GC.seq ?_
    refine GC.region ?_
    refine GL.v Wmv ?_
    refine GL.v Wag ?_
    refine GL.nil ?_
    refine GE.seq ?_
    refine GC.ret ?_
    -- returns, path F
    refine GE.ret_tmp (L' := L) (.inl rfl) rfl rfl Wsb ?_
    exact ⟨by rw [show i = n by omega], rfl⟩
/-- the marks of parts -/
def markPt (k : Int) : Part := ⟨k, k + 1, k + 2, k + 3, k + 4⟩
theorem markPartS_spec (w0 : World) (L : List Asn) (A : Option Addr) (c : Nat) (xs : List Part) (k : Int) (h0 : 0 ≤ k) (h1 : k ≤ 9000000000000000) (hl : xs.length ≤ 1100000) :
    Tr Try.prog 97 #[.slice A xs.length c, .int .i64 k] w0 (row partE A c xs :: L) (fun v L' => v = .int .i64 (k + 5 * xs.length) ∧ ∃ ys, ys.length = xs.length ∧ L' = row partE A c ys :: L) := by
  refine Tr.enter (args := [.slice A xs.length c, .int .i64 k]) Try.func97 Try.ntmps97 rfl rfl ?_
  refine GC.seq ?_
  refine GC.region ?_
  refine GL.v Wag ?_
  refine GL.nil ?_
  refine GE.seq ?_
  refine GC.seq ?_
  refine GC.seq ?_
  refine GC.region ?_
  refine GL.v Wag ?_
  refine GL.nil ?_
  refine GE.seq ?_
  refine GC.block ?_
  -- loop 1: carried slots [1, 5]
  refine GC.loopK (α := Nat × List Part) (fun x => x.1 ≤ xs.length ∧ x.2.length = xs.length) (fun x => [(1, .int .i64 (k + 5 * x.1)), (5, .int .i64 x.1)]) [(0, _)] (fun x => row partE A c x.2 :: L) (fun x => xs.length - x.1) (0, xs) (by refine Keeps.cons (by simp; rfl) ?_; repeat (first | exact Keeps.nil | refine Keeps.cons rfl ?_)) Wsb ⟨Nat.zero_le _, rfl⟩ ?_
  rintro ⟨i, ys⟩ ⟨hi, hy⟩
  dsimp only at hi hy ⊢
  rw [← hy]
  refine GC.seq ?_
  refine GC.seq ?_
  refine GC.region ?_
  refine GL.v Wmv ?_
  refine GL.v Wmv ?_
  refine GL.v Wln ?_
  refine GL.v Wls ?_
  refine GL.nil ?_
  refine GE.seq ?_
  refine GC.ifs (fun h1 => ?_) (fun h1 => ?_)
  · -- T
    have hil : i < ys.length := by omega
    refine GC.skip ?_
    refine GE.seq ?_
    refine GC.seq ?_
    refine GC.block ?_
    refine GC.seq ?_
    refine GC.region ?_
    refine GL.v Wmv ?_
    refine GL.v Wmv ?_
    refine GL.v Wmv ?_
    refine GL.v Wix ?_
    refine GL.v Wfa ?_
    refine GL.store_part rfl rfl Wpk (by first | omega | (simp; done) | (simp; omega)) rfl ?_
    refine GL.nil ?_
    refine GE.seq ?_
    refine GC.seq ?_
    refine GC.region ?_
    refine GL.v Wmv ?_
    refine GL.v Wad ?_
    refine GL.v Wag ?_
    refine GL.nil ?_
    refine GE.seq ?_
    refine GC.seq ?_
    refine GC.region ?_
    refine GL.v Wmv ?_
    refine GL.v Wmv ?_
    refine GL.v Wmv ?_
    refine GL.v Wix ?_
    refine GL.v Wfa ?_
    refine GL.store_part rfl rfl Wpk (by first | omega | (simp; done) | (simp; omega)) rfl ?_
    refine GL.nil ?_
    refine GE.seq ?_
    refine GC.seq ?_
    refine GC.region ?_
    refine GL.v Wmv ?_
    refine GL.v Wad ?_
    refine GL.v Wag ?_
    refine GL.nil ?_
    refine GE.seq ?_
    refine GC.seq ?_
    refine GC.region ?_
    refine GL.v Wmv ?_
    refine GL.v Wmv ?_
    refine GL.v Wmv ?_
    refine GL.v Wix ?_
    refine GL.v Wfa ?_
    refine GL.store_part rfl rfl Wpk (by first | omega | (simp; done) | (simp; omega)) rfl ?_
    refine GL.nil ?_
    refine GE.seq ?_
    refine GC.seq ?_
    refine GC.region ?_
    refine GL.v Wmv ?_
    refine GL.v Wad ?_
    refine GL.v Wag ?_
    refine GL.nil ?_
    refine GE.seq ?_
    refine GC.seq ?_
    refine GC.region ?_
    refine GL.v Wmv ?_
    refine GL.v Wmv ?_
    refine GL.v Wmv ?_
    refine GL.v Wix ?_
    refine GL.v Wfa ?_
    refine GL.store_part rfl rfl Wpk (by first | omega | (simp; done) | (simp; omega)) rfl ?_
    refine GL.nil ?_
    refine GE.seq ?_
    refine GC.seq ?_
    refine GC.region ?_
    refine GL.v Wmv ?_
    refine GL.v Wad ?_
    refine GL.v Wag ?_
    refine GL.nil ?_
    refine GE.seq ?_
    refine GC.seq ?_
    refine GC.region ?_
    refine GL.v Wmv ?_
    refine GL.v Wmv ?_
    refine GL.v Wmv ?_
    refine GL.v Wix ?_
    refine GL.v Wfa ?_
    refine GL.store_part rfl rfl Wpk (by first | omega | (simp; done) | (simp; omega)) rfl ?_
    refine GL.nil ?_
    refine GE.seq ?_
    refine GC.region ?_
    refine GL.v Wmv ?_
    refine GL.v Wad ?_
    refine GL.v Wag ?_
    refine GL.nil ?_
    refine GE.block ?_
    refine GE.seq ?_
    refine GC.region ?_
    refine GL.v Wmv ?_
    refine GL.v Wad ?_
    refine GL.v Wag ?_
    refine GL.nil ?_
    -- round of loop 1, path T
    refine GE.round (i + 1, _) ?_ (by dsimp only; omega) (by dsimp only; rw [show k + 5 * (i : Int) + 1 + 1 + 1 + 1 + 1 = k + 5 * ((i + 1 : Nat) : Int) by omega]; repeat (first | exact Keeps.nil | refine Keeps.cons rfl ?_)) Wsb
    exact ⟨by dsimp only; omega, by simp only [List.length_set]⟩
  · -- F
    have hie : i = ys.length := by omega
    refine GC.exit ?_
    refine GE.seq_exit ?_
    refine GE.loop_exit ?_
    refine GE.block_exit ?_
    refine GE.seq ?_
    refine GC.seq ?_
    refine GC.region ?_
    refine GL.v Wmv ?_
    refine GL.v Wag ?_
    refine GL.nil ?_
    refine GE.seq ?_
    refine GC.ret ?_
    -- returns, path F
    refine GE.ret_tmp (L' := row partE A c ys :: L) (.inl rfl) rfl rfl Wsb ?_
    exact ⟨by rw [hie], ys, rfl, rfl⟩
end SG
