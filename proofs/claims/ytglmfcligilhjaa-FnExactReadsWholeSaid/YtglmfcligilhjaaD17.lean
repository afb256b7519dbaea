/- Contracts: the reference's value of a formula, and what it reads; the program's ReadsOf. -/
import Derived.Test.YtglmfcligilhjaaD14
import Derived.Test.YtglmfcligilhjaaD16
import Derived.Test.YtglmfcligilhjaaPlain7
namespace SG
open Go Go.RowKit Go.Proofs
set_option linter.unusedVariables false
set_option linter.unusedSimpArgs false
set_option maxRecDepth 100000
/-- a slice told by another list of its length -/
theorem Tr.len2 {P : Program} {f : FuncId} {a : Value} {n : Nat} {B : Option Addr} {d : Nat} {w0 : World} {L : List Asn} {R : Value → List Asn → Prop} (xs : List Int) (h : n = xs.length) (hT : Tr P f #[a, .slice B xs.length d] w0 L R) : Tr P f #[a, .slice B n d] w0 L R := by rw [h]; exact hT
theorem placeIn_spec (w0 : World) (L : List Asn) (A : Option Addr) (c : Nat) (xs : List Int) (hX : Rd w0 L intE A c xs) (hl : xs.length ≤ 1100000) (n : Int) :
    Tr Try.prog 98 #[.slice A xs.length c, .int .i64 n] w0 L (fun v L' => ∃ k : Int, v = .int .i64 k ∧ (k < 0 ↔ xs.contains n = false) ∧ L' = L) := by
  refine Tr.enter (args := [.slice A xs.length c, .int .i64 n]) Try.func98 Try.ntmps98 rfl rfl ?_
  refine GC.seq ?_
  refine GC.region ?_
  refine GL.val (by exact EvP.r (Ev.assign rfl)) rfl rfl ?_
  refine GL.nil ?_
  refine GE.seq ?_
  refine GC.seq ?_
  refine GC.seq ?_
  refine GC.region ?_
  refine GL.val (by exact EvP.r (Ev.assign rfl)) rfl rfl ?_
  refine GL.nil ?_
  refine GE.seq ?_
  refine GC.block ?_
  -- loop 1: carried slots [5]
  refine GC.loopK (α := Nat) (fun i => i ≤ xs.length ∧ ∀ j (h : j < i) (h' : j < xs.length), xs[j] ≠ n) (fun i => [(5, .int .i64 i)]) [(0, _), (1, _)] (fun i => L) (fun i => xs.length - i) 0 (by repeat (first | exact Keeps.nil | refine Keeps.cons rfl ?_)) (by first | exact Sub.refl | exact Sub.nil | (repeat (first | exact Sub.refl | exact Sub.nil | refine Sub.cons (by (repeat (first | exact Pick.head | apply Pick.tail)); fail_if_success (focus skip)) ?_ | refine Sub.drop ?_))) ⟨Nat.zero_le _, fun _ h => by omega⟩ ?_
  rintro i ⟨hi, hno⟩
  refine GC.seq ?_
  refine GC.seq ?_
  refine GC.region ?_
  refine GL.val (by exact EvP.r (Ev.move rfl)) rfl rfl ?_
  refine GL.val (by exact EvP.r (Ev.move rfl)) rfl rfl ?_
  refine GL.val (by exact EvP.r (Ev.len rfl)) rfl rfl ?_
  refine GL.val (by exact EvP.r (Ev.lss rfl rfl)) rfl rfl ?_
  refine GL.nil ?_
  refine GE.seq ?_
  first | refine GC.if_dec rfl (fun h1 => ?_) (fun h1 => ?_) | refine GC.if_ndec rfl (fun h1 => ?_) (fun h1 => ?_) | refine GC.if_not rfl (fun h1 => ?_) (fun h1 => ?_) | refine GC.if_bool rfl (fun h1 => ?_) (fun h1 => ?_)
  · -- T
    have hil : i < xs.length := by omega
    refine GC.skip ?_
    refine GE.seq ?_
    refine GC.seq ?_
    refine GC.block ?_
    refine GC.seq ?_
    refine GC.region ?_
    refine GL.val (by exact EvP.r (Ev.move rfl)) rfl rfl ?_
    refine GL.val (by exact EvP.r (Ev.move rfl)) rfl rfl ?_
    refine GL.val (by exact (by first | exact Ev.index rfl rfl (by assumption) (by first | exact Imp.refl | exact Imp.nil | ((repeat (first | exact Imp.refl | refine Imp.cons ?_)); fail_if_success (focus skip))) (by first | rfl | exact (Int.toNat_of_nonneg (by omega)).symm) (by first | omega | (show 0 < _; omega) | (simp; omega)) (by first | exact Nat.le_refl _ | (simp; done) | omega | (simp; omega)) | exact Ev.index rfl rfl (Rd.of_pick (by (repeat (first | exact Pick.head | apply Pick.tail)); fail_if_success (focus skip))) Imp.refl (by first | rfl | exact (Int.toNat_of_nonneg (by omega)).symm) (by first | omega | (show 0 < _; omega) | (simp; omega)) (by first | exact Nat.le_refl _ | (simp; done) | omega | (simp; omega)))) rfl rfl ?_
    refine GL.val (by exact (by first | exact Ev.load_el rfl (by assumption) (by first | exact Imp.refl | exact Imp.nil | ((repeat (first | exact Imp.refl | refine Imp.cons ?_)); fail_if_success (focus skip))) rfl rfl rfl (List.getElem?_eq_getElem (by first | omega | (simp; done) | (simp; omega))) | exact Ev.load_el rfl (Rd.of_pick (by (repeat (first | exact Pick.head | apply Pick.tail)); fail_if_success (focus skip))) Imp.refl rfl rfl rfl (List.getElem?_eq_getElem (by first | omega | (simp; done) | (simp; omega))))) rfl rfl ?_
    refine GL.val (by exact EvP.r (Ev.move rfl)) rfl rfl ?_
    refine GL.val (by exact EvP.r (Ev.eql rfl rfl)) rfl rfl ?_
    refine GL.nil ?_
    refine GE.seq ?_
    first | refine GC.if_dec rfl (fun h2 => ?_) (fun h2 => ?_) | refine GC.if_ndec rfl (fun h2 => ?_) (fun h2 => ?_) | refine GC.if_not rfl (fun h2 => ?_) (fun h2 => ?_) | refine GC.if_bool rfl (fun h2 => ?_) (fun h2 => ?_)
    · -- TT
      refine GC.seq ?_
      refine GC.region ?_
      refine GL.val (by exact EvP.r (Ev.move rfl)) rfl rfl ?_
      refine GL.val (by exact EvP.r (Ev.assign rfl)) rfl rfl ?_
      refine GL.nil ?_
      refine GE.seq ?_
      refine GC.ret ?_
      refine GE.block_ret ?_
      refine GE.seq_ret ?_
      refine GE.loop_ret ?_
      refine GE.block_ret ?_
      refine GE.seq_ret ?_
      -- returns, path TT
      refine GE.ret_tmp (L' := L) (.inl rfl) rfl rfl (by first | exact Sub.refl | exact Sub.nil | (repeat (first | exact Sub.refl | exact Sub.nil | refine Sub.cons (by (repeat (first | exact Pick.head | apply Pick.tail)); fail_if_success (focus skip)) ?_ | refine Sub.drop ?_))) ?_
      exact ⟨_, rfl, ⟨fun _ => by omega, fun h => absurd h (by rw [← h2]; simp)⟩, rfl⟩
    · -- TF
      refine GC.skip ?_
      refine GE.block ?_
      refine GE.seq ?_
      refine GC.region ?_
      refine GL.val (by exact EvP.r (Ev.move rfl)) rfl rfl ?_
      refine GL.val (by exact EvP.r (Ev.add rfl rfl (by omega))) rfl rfl ?_
      refine GL.val (by exact EvP.r (Ev.assign rfl)) rfl rfl ?_
      refine GL.nil ?_
      -- round of loop 1, path TF
      refine GE.round (i + 1) ⟨by omega, fun j h h' => ?_⟩ (by omega) (by repeat (first | exact Keeps.nil | refine Keeps.cons rfl ?_)) (by first | exact Sub.refl | exact Sub.nil | (repeat (first | exact Sub.refl | exact Sub.nil | refine Sub.cons (by (repeat (first | exact Pick.head | apply Pick.tail)); fail_if_success (focus skip)) ?_ | refine Sub.drop ?_)))
      by_cases e : j = i
      · subst e; exact h2
      · exact hno j (by omega) h'
  · -- F
    refine GC.exit ?_
    refine GE.seq_exit ?_
    refine GE.loop_exit ?_
    refine GE.block_exit ?_
    refine GE.seq ?_
    refine GC.seq ?_
    refine GC.region ?_
    refine GL.val (by exact EvP.r (Ev.assign rfl)) rfl rfl ?_
    refine GL.nil ?_
    refine GE.seq ?_
    refine GC.ret ?_
    -- returns, path F
    refine GE.ret_tmp (L' := L) (.inl rfl) rfl rfl (by first | exact Sub.refl | exact Sub.nil | (repeat (first | exact Sub.refl | exact Sub.nil | refine Sub.cons (by (repeat (first | exact Pick.head | apply Pick.tail)); fail_if_success (focus skip)) ?_ | refine Sub.drop ?_))) ?_
    refine ⟨-1, rfl, ⟨fun _ => ?_, fun h => by omega⟩, rfl⟩
    cases hc : xs.contains n with
    | false => rfl
    | true =>
      obtain ⟨j, hj, e⟩ := List.mem_iff_getElem.1 (show n ∈ xs by simpa using hc)
      exact absurd e (hno j (by omega) hj)
theorem allIn_spec (w0 : World) (L : List Asn) (A : Option Addr) (c : Nat) (xs : List Int) (hX : Rd w0 L intE A c xs) (lo hi : Int) (hl : xs.length ≤ 1100000) :
    Tr Try.prog 50 #[.slice A xs.length c, .int .i64 lo, .int .i64 hi] w0 L (fun v L' => v = .bool (allB xs lo hi) ∧ L' = L) := by
  refine Tr.enter (args := [.slice A xs.length c, .int .i64 lo, .int .i64 hi]) Try.func50 Try.ntmps50 rfl rfl ?_
  refine GC.seq ?_
  refine GC.region ?_
  refine GL.val (by exact EvP.r (Ev.assign rfl)) rfl rfl ?_
  refine GL.nil ?_
  refine GE.seq ?_
  refine GC.seq ?_
  refine GC.seq ?_
  refine GC.region ?_
  refine GL.val (by exact EvP.r (Ev.assign rfl)) rfl rfl ?_
  refine GL.nil ?_
  refine GE.seq ?_
  refine GC.block ?_
  -- loop 1: carried slots [7]
  refine GC.loopK (α := Nat) (fun i => i ≤ xs.length ∧ ∀ j (h : j < i) (h' : j < xs.length), lo ≤ xs[j] ∧ xs[j] ≤ hi) (fun i => [(7, .int .i64 i)]) [(0, _), (1, _), (2, _)] (fun i => L) (fun i => xs.length - i) 0 (by repeat (first | exact Keeps.nil | refine Keeps.cons rfl ?_)) (by first | exact Sub.refl | exact Sub.nil | (repeat (first | exact Sub.refl | exact Sub.nil | refine Sub.cons (by (repeat (first | exact Pick.head | apply Pick.tail)); fail_if_success (focus skip)) ?_ | refine Sub.drop ?_))) ⟨Nat.zero_le _, fun _ h => by omega⟩ ?_
  rintro i ⟨hi', hno⟩
  refine GC.seq ?_
  refine GC.seq ?_
  refine GC.region ?_
  refine GL.val (by exact EvP.r (Ev.move rfl)) rfl rfl ?_
  refine GL.val (by exact EvP.r (Ev.move rfl)) rfl rfl ?_
  refine GL.val (by exact EvP.r (Ev.len rfl)) rfl rfl ?_
  refine GL.val (by exact EvP.r (Ev.lss rfl rfl)) rfl rfl ?_
  refine GL.nil ?_
  refine GE.seq ?_
  first | refine GC.if_dec rfl (fun h1 => ?_) (fun h1 => ?_) | refine GC.if_ndec rfl (fun h1 => ?_) (fun h1 => ?_) | refine GC.if_not rfl (fun h1 => ?_) (fun h1 => ?_) | refine GC.if_bool rfl (fun h1 => ?_) (fun h1 => ?_)
  · -- T
    have hil : i < xs.length := by omega
    refine GC.skip ?_
    refine GE.seq ?_
    refine GC.seq ?_
    refine GC.block ?_
    refine GC.seq ?_
    refine GC.region ?_
    refine GL.val (by exact EvP.r (Ev.move rfl)) rfl rfl ?_
    refine GL.val (by exact EvP.r (Ev.move rfl)) rfl rfl ?_
    refine GL.val (by exact (by first | exact Ev.index rfl rfl (by assumption) (by first | exact Imp.refl | exact Imp.nil | ((repeat (first | exact Imp.refl | refine Imp.cons ?_)); fail_if_success (focus skip))) (by first | rfl | exact (Int.toNat_of_nonneg (by omega)).symm) (by first | omega | (show 0 < _; omega) | (simp; omega)) (by first | exact Nat.le_refl _ | (simp; done) | omega | (simp; omega)) | exact Ev.index rfl rfl (Rd.of_pick (by (repeat (first | exact Pick.head | apply Pick.tail)); fail_if_success (focus skip))) Imp.refl (by first | rfl | exact (Int.toNat_of_nonneg (by omega)).symm) (by first | omega | (show 0 < _; omega) | (simp; omega)) (by first | exact Nat.le_refl _ | (simp; done) | omega | (simp; omega)))) rfl rfl ?_
    refine GL.val (by exact (by first | exact Ev.load_el rfl (by assumption) (by first | exact Imp.refl | exact Imp.nil | ((repeat (first | exact Imp.refl | refine Imp.cons ?_)); fail_if_success (focus skip))) rfl rfl rfl (List.getElem?_eq_getElem (by first | omega | (simp; done) | (simp; omega))) | exact Ev.load_el rfl (Rd.of_pick (by (repeat (first | exact Pick.head | apply Pick.tail)); fail_if_success (focus skip))) Imp.refl rfl rfl rfl (List.getElem?_eq_getElem (by first | omega | (simp; done) | (simp; omega))))) rfl rfl ?_
    refine GL.val (by exact EvP.r (Ev.move rfl)) rfl rfl ?_
    refine GL.val (by exact EvP.r (Ev.move rfl)) rfl rfl ?_
    refine GL.callF rfl rfl (inRange_spec _ _ _ _ _) ?_
    refine GL.val (by exact EvP.r (Ev.not rfl)) rfl rfl ?_
    refine GL.nil ?_
    refine GE.seq ?_
    first | refine GC.if_dec rfl (fun h2 => ?_) (fun h2 => ?_) | refine GC.if_ndec rfl (fun h2 => ?_) (fun h2 => ?_) | refine GC.if_not rfl (fun h2 => ?_) (fun h2 => ?_) | refine GC.if_bool rfl (fun h2 => ?_) (fun h2 => ?_)
    · -- TT
      refine GC.seq ?_
      refine GC.region ?_
      refine GL.val (by exact EvP.r (Ev.assign rfl)) rfl rfl ?_
      refine GL.nil ?_
      refine GE.seq ?_
      refine GC.ret ?_
      refine GE.block_ret ?_
      refine GE.seq_ret ?_
      refine GE.loop_ret ?_
      refine GE.block_ret ?_
      refine GE.seq_ret ?_
      -- returns, path TT
      refine GE.ret_tmp (L' := L) (.inl rfl) rfl rfl (by first | exact Sub.refl | exact Sub.nil | (repeat (first | exact Sub.refl | exact Sub.nil | refine Sub.cons (by (repeat (first | exact Pick.head | apply Pick.tail)); fail_if_success (focus skip)) ?_ | refine Sub.drop ?_))) ?_
      exact ⟨by rw [allB_not hil (inB_not.1 h2)], rfl⟩
    · -- TF
      refine GC.skip ?_
      refine GE.block ?_
      refine GE.seq ?_
      refine GC.region ?_
      refine GL.val (by exact EvP.r (Ev.move rfl)) rfl rfl ?_
      refine GL.val (by exact EvP.r (Ev.add rfl rfl (by omega))) rfl rfl ?_
      refine GL.val (by exact EvP.r (Ev.assign rfl)) rfl rfl ?_
      refine GL.nil ?_
      -- round of loop 1, path TF
      refine GE.round (i + 1) ⟨by omega, fun j h h' => ?_⟩ (by omega) (by repeat (first | exact Keeps.nil | refine Keeps.cons rfl ?_)) (by first | exact Sub.refl | exact Sub.nil | (repeat (first | exact Sub.refl | exact Sub.nil | refine Sub.cons (by (repeat (first | exact Pick.head | apply Pick.tail)); fail_if_success (focus skip)) ?_ | refine Sub.drop ?_)))
      by_cases e : j = i
      · subst e; exact inB_iff.1 h2
      · exact hno j (by omega) h'
  · -- F
    refine GC.exit ?_
    refine GE.seq_exit ?_
    refine GE.loop_exit ?_
    refine GE.block_exit ?_
    refine GE.seq ?_
    refine GC.seq ?_
    refine GC.region ?_
    refine GL.val (by exact EvP.r (Ev.assign rfl)) rfl rfl ?_
    refine GL.nil ?_
    refine GE.seq ?_
    refine GC.ret ?_
    -- returns, path F
    refine GE.ret_tmp (L' := L) (.inl rfl) rfl rfl (by first | exact Sub.refl | exact Sub.nil | (repeat (first | exact Sub.refl | exact Sub.nil | refine Sub.cons (by (repeat (first | exact Pick.head | apply Pick.tail)); fail_if_success (focus skip)) ?_ | refine Sub.drop ?_))) ?_
    exact ⟨by rw [allB_iff.2 (fun x hx => by obtain ⟨j, hj, rfl⟩ := List.mem_iff_getElem.1 hx; exact hno j (by omega) hj)], rfl⟩
theorem joined_spec (w0 : World) (L : List Asn) (k x y : Int) (hx : InMod x) (hy : InMod y) : Tr Try.prog 97 #[.int .i64 k, .int .i64 x, .int .i64 y] w0 L (fun v L' => v = .int .i64 (joinI k x y) ∧ L' = L) := by
  obtain ⟨x0, x1⟩ := hx
  obtain ⟨y0, y1⟩ := hy
  have hm0 : 0 ≤ x * y := Int.mul_nonneg x0 y0
  have hm1 : x * y ≤ 999 * 999 := Int.mul_le_mul x1 y1 y0 (by omega)
  refine Tr.enter (args := [.int .i64 k, .int .i64 x, .int .i64 y]) Try.func97 Try.ntmps97 rfl rfl ?_
  refine GC.seq ?_
  refine GC.region ?_
  refine GL.val (by exact EvP.r (Ev.assign rfl)) rfl rfl ?_
  refine GL.nil ?_
  refine GE.seq ?_
  refine GC.seq ?_
  refine GC.seq ?_
  refine GC.region ?_
  refine GL.val (by exact EvP.r (Ev.move rfl)) rfl rfl ?_
  refine GL.nil ?_
  refine GE.seq ?_
  refine GC.block ?_
  refine GC.seq ?_
  refine GC.region ?_
  refine GL.val (by exact EvP.r (Ev.eql rfl rfl)) rfl rfl ?_
  refine GL.val (by exact EvP.r (Ev.assign rfl)) rfl rfl ?_
  refine GL.nil ?_
  refine GE.seq ?_
  first | refine GC.if_dec rfl (fun h1 => ?_) (fun h1 => ?_) | refine GC.if_ndec rfl (fun h1 => ?_) (fun h1 => ?_) | refine GC.if_not rfl (fun h1 => ?_) (fun h1 => ?_) | refine GC.if_bool rfl (fun h1 => ?_) (fun h1 => ?_)
  · -- T
    refine GC.seq ?_
    refine GC.region ?_
    refine GL.val (by exact EvP.r (Ev.move rfl)) rfl rfl ?_
    refine GL.val (by exact EvP.r (Ev.move rfl)) rfl rfl ?_
    refine GL.val (by exact EvP.r (Ev.add rfl rfl (by omega))) rfl rfl ?_
    refine GL.val (by exact EvP.r (Ev.rem rfl rfl (by omega) (by omega))) rfl rfl ?_
    refine GL.val (by exact EvP.r (Ev.assign rfl)) rfl rfl ?_
    refine GL.nil ?_
    refine GE.seq ?_
    refine GC.ret ?_
    refine GE.block_ret ?_
    refine GE.seq_ret ?_
    -- returns, path T
    refine GE.ret_tmp (L' := L) (.inl rfl) rfl rfl (by first | exact Sub.refl | exact Sub.nil | (repeat (first | exact Sub.refl | exact Sub.nil | refine Sub.cons (by (repeat (first | exact Pick.head | apply Pick.tail)); fail_if_success (focus skip)) ?_ | refine Sub.drop ?_))) ?_
    exact ⟨by simp [joinI, *], rfl⟩
  · -- F
    refine GC.seq ?_
    refine GC.region ?_
    refine GL.val (by exact EvP.r (Ev.eql rfl rfl)) rfl rfl ?_
    refine GL.val (by exact EvP.r (Ev.assign rfl)) rfl rfl ?_
    refine GL.nil ?_
    refine GE.seq ?_
    first | refine GC.if_dec rfl (fun h2 => ?_) (fun h2 => ?_) | refine GC.if_ndec rfl (fun h2 => ?_) (fun h2 => ?_) | refine GC.if_not rfl (fun h2 => ?_) (fun h2 => ?_) | refine GC.if_bool rfl (fun h2 => ?_) (fun h2 => ?_)
    · -- FT
      refine GC.seq ?_
      refine GC.region ?_
      refine GL.val (by exact EvP.r (Ev.move rfl)) rfl rfl ?_
      refine GL.val (by exact EvP.r (Ev.move rfl)) rfl rfl ?_
      refine GL.val (by exact EvP.r (Ev.sub rfl rfl (by omega))) rfl rfl ?_
      refine GL.val (by exact EvP.r (Ev.add rfl rfl (by omega))) rfl rfl ?_
      refine GL.val (by exact EvP.r (Ev.rem rfl rfl (by omega) (by omega))) rfl rfl ?_
      refine GL.val (by exact EvP.r (Ev.assign rfl)) rfl rfl ?_
      refine GL.nil ?_
      refine GE.seq ?_
      refine GC.ret ?_
      refine GE.block_ret ?_
      refine GE.seq_ret ?_
      -- returns, path FT
      refine GE.ret_tmp (L' := L) (.inl rfl) rfl rfl (by first | exact Sub.refl | exact Sub.nil | (repeat (first | exact Sub.refl | exact Sub.nil | refine Sub.cons (by (repeat (first | exact Pick.head | apply Pick.tail)); fail_if_success (focus skip)) ?_ | refine Sub.drop ?_))) ?_
      exact ⟨by simp [joinI, *], rfl⟩
    · -- FF
      refine GC.seq ?_
      refine GC.region ?_
      refine GL.val (by exact EvP.r (Ev.eql rfl rfl)) rfl rfl ?_
      refine GL.val (by exact EvP.r (Ev.assign rfl)) rfl rfl ?_
      refine GL.nil ?_
      refine GE.seq ?_
      first | refine GC.if_dec rfl (fun h3 => ?_) (fun h3 => ?_) | refine GC.if_ndec rfl (fun h3 => ?_) (fun h3 => ?_) | refine GC.if_not rfl (fun h3 => ?_) (fun h3 => ?_) | refine GC.if_bool rfl (fun h3 => ?_) (fun h3 => ?_)
      · -- FFT
        refine GC.seq ?_
        refine GC.region ?_
        refine GL.val (by exact EvP.r (Ev.move rfl)) rfl rfl ?_
        refine GL.val (by exact EvP.r (Ev.move rfl)) rfl rfl ?_
        refine GL.val (by exact EvP.r (Ev.mul rfl rfl (by omega))) rfl rfl ?_
        refine GL.val (by exact EvP.r (Ev.rem rfl rfl (by omega) (by omega))) rfl rfl ?_
        refine GL.val (by exact EvP.r (Ev.assign rfl)) rfl rfl ?_
        refine GL.nil ?_
        refine GE.seq ?_
        refine GC.ret ?_
        refine GE.block_ret ?_
        refine GE.seq_ret ?_
        -- returns, path FFT
        refine GE.ret_tmp (L' := L) (.inl rfl) rfl rfl (by first | exact Sub.refl | exact Sub.nil | (repeat (first | exact Sub.refl | exact Sub.nil | refine Sub.cons (by (repeat (first | exact Pick.head | apply Pick.tail)); fail_if_success (focus skip)) ?_ | refine Sub.drop ?_))) ?_
        exact ⟨by simp [joinI, *], rfl⟩
      · -- FFF
        refine GC.seq ?_
        refine GC.region ?_
        refine GL.val (by exact EvP.r (Ev.eql rfl rfl)) rfl rfl ?_
        refine GL.val (by exact EvP.r (Ev.assign rfl)) rfl rfl ?_
        refine GL.nil ?_
        refine GE.seq ?_
        first | refine GC.if_dec rfl (fun h4 => ?_) (fun h4 => ?_) | refine GC.if_ndec rfl (fun h4 => ?_) (fun h4 => ?_) | refine GC.if_not rfl (fun h4 => ?_) (fun h4 => ?_) | refine GC.if_bool rfl (fun h4 => ?_) (fun h4 => ?_)
        · -- FFFT
          refine GC.seq ?_
          refine GC.region ?_
          refine GL.val (by exact EvP.r (Ev.move rfl)) rfl rfl ?_
          refine GL.val (by exact EvP.r (Ev.move rfl)) rfl rfl ?_
          refine GL.val (by exact EvP.r (Ev.min rfl rfl)) rfl rfl ?_
          refine GL.val (by exact EvP.r (Ev.assign rfl)) rfl rfl ?_
          refine GL.nil ?_
          refine GE.seq ?_
          refine GC.ret ?_
          refine GE.block_ret ?_
          refine GE.seq_ret ?_
          -- returns, path FFFT
          refine GE.ret_tmp (L' := L) (.inl rfl) rfl rfl (by first | exact Sub.refl | exact Sub.nil | (repeat (first | exact Sub.refl | exact Sub.nil | refine Sub.cons (by (repeat (first | exact Pick.head | apply Pick.tail)); fail_if_success (focus skip)) ?_ | refine Sub.drop ?_))) ?_
          exact ⟨by simp [joinI, *], rfl⟩
        · -- FFFF
          refine GC.seq ?_
          refine GC.region ?_
          refine GL.val (by exact EvP.r (Ev.eql rfl rfl)) rfl rfl ?_
          refine GL.val (by exact EvP.r (Ev.assign rfl)) rfl rfl ?_
          refine GL.nil ?_
          refine GE.seq ?_
          first | refine GC.if_dec rfl (fun h5 => ?_) (fun h5 => ?_) | refine GC.if_ndec rfl (fun h5 => ?_) (fun h5 => ?_) | refine GC.if_not rfl (fun h5 => ?_) (fun h5 => ?_) | refine GC.if_bool rfl (fun h5 => ?_) (fun h5 => ?_)
          · -- FFFFT
            refine GC.seq ?_
            refine GC.region ?_
            refine GL.val (by exact EvP.r (Ev.move rfl)) rfl rfl ?_
            refine GL.val (by exact EvP.r (Ev.move rfl)) rfl rfl ?_
            refine GL.val (by exact EvP.r (Ev.max rfl rfl)) rfl rfl ?_
            refine GL.val (by exact EvP.r (Ev.assign rfl)) rfl rfl ?_
            refine GL.nil ?_
            refine GE.seq ?_
            refine GC.ret ?_
            refine GE.block_ret ?_
            refine GE.seq_ret ?_
            -- returns, path FFFFT
            refine GE.ret_tmp (L' := L) (.inl rfl) rfl rfl (by first | exact Sub.refl | exact Sub.nil | (repeat (first | exact Sub.refl | exact Sub.nil | refine Sub.cons (by (repeat (first | exact Pick.head | apply Pick.tail)); fail_if_success (focus skip)) ?_ | refine Sub.drop ?_))) ?_
            exact ⟨by simp [joinI, *], rfl⟩
          · -- FFFFF
            refine GC.skip ?_
            refine GE.block ?_
            refine GE.seq ?_
            refine GC.seq ?_
            refine GC.seq ?_
            refine GC.region ?_
            refine GL.val (by exact EvP.r (Ev.move rfl)) rfl rfl ?_
            refine GL.val (by exact EvP.r (Ev.move rfl)) rfl rfl ?_
            refine GL.val (by exact EvP.r (Ev.lss rfl rfl)) rfl rfl ?_
            refine GL.nil ?_
            refine GE.seq ?_
            first | refine GC.if_dec rfl (fun h6 => ?_) (fun h6 => ?_) | refine GC.if_ndec rfl (fun h6 => ?_) (fun h6 => ?_) | refine GC.if_not rfl (fun h6 => ?_) (fun h6 => ?_) | refine GC.if_bool rfl (fun h6 => ?_) (fun h6 => ?_)
            · -- FFFFFT
              refine GC.seq ?_
              refine GC.region ?_
              refine GL.val (by exact EvP.r (Ev.assign rfl)) rfl rfl ?_
              refine GL.nil ?_
              refine GE.seq ?_
              refine GC.ret ?_
              refine GE.seq_ret ?_
              -- returns, path FFFFFT
              refine GE.ret_tmp (L' := L) (.inl rfl) rfl rfl (by first | exact Sub.refl | exact Sub.nil | (repeat (first | exact Sub.refl | exact Sub.nil | refine Sub.cons (by (repeat (first | exact Pick.head | apply Pick.tail)); fail_if_success (focus skip)) ?_ | refine Sub.drop ?_))) ?_
              exact ⟨by simp [joinI, *], rfl⟩
            · -- FFFFFF
              refine GC.skip ?_
              refine GE.seq ?_
              refine GC.seq ?_
              refine GC.region ?_
              refine GL.val (by exact EvP.r (Ev.assign rfl)) rfl rfl ?_
              refine GL.nil ?_
              refine GE.seq ?_
              refine GC.ret ?_
              -- returns, path FFFFFF
              refine GE.ret_tmp (L' := L) (.inl rfl) rfl rfl (by first | exact Sub.refl | exact Sub.nil | (repeat (first | exact Sub.refl | exact Sub.nil | refine Sub.cons (by (repeat (first | exact Pick.head | apply Pick.tail)); fail_if_success (focus skip)) ?_ | refine Sub.drop ?_))) ?_
              exact ⟨by simp [joinI, *], rfl⟩
theorem reckoned_spec (w0 : World) (L : List Asn) (A : Option Addr) (c : Nat) (ps : List Part) (hR : Rd w0 L partE A c ps) (B : Option Addr) (d : Nat) (xs : List Int) (hX : Rd w0 L intE B d xs) (hf : FitV ps xs) :
    ∀ (i : Nat) (hi : i < ps.length) (X : List Asn) (hi' : Imp w0 X L) (k : Int) (hk : k = i),
    Tr Try.prog 87 #[.agg #[.slice A ps.length c], .slice B xs.length d, .int .i64 k] w0 X (fun v L' => ∃ B' d', v = .tuple #[.int .i64 (evL ps (valF xs) i).1, .slice B' (evL ps (valF xs) i).2.length d'] ∧ L' = row intE B' d' (evL ps (valF xs) i).2 :: X) := by
  have hv := hf.1.2.2.1
  have hl2 := hf.1.2.1
  have hxl := hf.2.1
  intro i
  induction i using Nat.strongRecOn with
  | _ i ih =>
    intro hi X hIX k hk
    subst hk
    have hg := hv i hi
    have hRX := hR.imp hIX
    have hXX := hX.imp hIX
    have hin := fun j hj => evL_in (vals := valF xs) hv hf.vals j hj
    have hlen : ∀ j, j < ps.length → (evL ps (valF xs) j).2.length ≤ 4096 := fun j hj => Nat.le_trans (evL_len hv j hj) (by have := Nat.pow_le_pow_right (show 0 < 2 by decide) (show j ≤ 12 by omega); omega)
    refine Tr.enter (args := [.agg #[.slice A ps.length c], .slice B xs.length d, .int .i64 i]) Try.func87 Try.ntmps87 rfl rfl ?_
    refine GC.seq ?_
    refine GC.region ?_
    refine GL.box_agg rfl rfl ?_; intro g3
    refine GL.val (by exact EvP.r (Ev.assign rfl)) rfl rfl ?_
    refine GL.val (by exact EvP.r (Ev.assign rfl)) rfl rfl ?_
    refine GL.nil ?_
    refine GE.seq ?_
    refine GC.seq ?_
    refine GC.region ?_
    refine GL.val (by exact EvP.r (Ev.fieldAddr rfl)) rfl rfl ?_
    refine GL.val (by exact (by first | exact Ev.load_blk rfl rfl (BlkRd.of_pick (by (repeat (first | exact Pick.head | apply Pick.tail)); fail_if_success (focus skip))) Imp.refl (by rfl) | exact Ev.load_blk rfl rfl (by assumption) (by first | exact Imp.refl | exact Imp.nil | ((repeat (first | exact Imp.refl | refine Imp.cons ?_)); fail_if_success (focus skip))) (by rfl))) rfl rfl ?_
    refine GL.val (by exact EvP.r (Ev.move rfl)) rfl rfl ?_
    refine GL.val (by exact (by first | exact Ev.index rfl rfl (by assumption) (by first | exact Imp.refl | exact Imp.nil | ((repeat (first | exact Imp.refl | refine Imp.cons ?_)); fail_if_success (focus skip))) (by first | rfl | exact (Int.toNat_of_nonneg (by omega)).symm) (by first | omega | (show 0 < _; omega) | (simp; omega)) (by first | exact Nat.le_refl _ | (simp; done) | omega | (simp; omega)) | exact Ev.index rfl rfl (Rd.of_pick (by (repeat (first | exact Pick.head | apply Pick.tail)); fail_if_success (focus skip))) Imp.refl (by first | rfl | exact (Int.toNat_of_nonneg (by omega)).symm) (by first | omega | (show 0 < _; omega) | (simp; omega)) (by first | exact Nat.le_refl _ | (simp; done) | omega | (simp; omega)))) rfl rfl ?_
    refine GL.val (by exact (by first | exact Ev.load_el rfl (by assumption) (by first | exact Imp.refl | exact Imp.nil | ((repeat (first | exact Imp.refl | refine Imp.cons ?_)); fail_if_success (focus skip))) rfl rfl rfl (List.getElem?_eq_getElem (by first | omega | (simp; done) | (simp; omega))) | exact Ev.load_el rfl (Rd.of_pick (by (repeat (first | exact Pick.head | apply Pick.tail)); fail_if_success (focus skip))) Imp.refl rfl rfl rfl (List.getElem?_eq_getElem (by first | omega | (simp; done) | (simp; omega))))) rfl rfl ?_
    refine GL.alloc rfl ?_; intro g8
    refine GL.store_varN rfl rfl rfl (by (repeat (first | exact Pick.head | apply Pick.tail)); fail_if_success (focus skip)) (by rfl) (by rfl) (by rfl) ?_
    refine GL.nil ?_
    refine GE.seq ?_
    refine GC.seq ?_
    refine GC.seq ?_
    refine GC.region ?_
    refine GL.val (by exact EvP.r (Ev.fieldAddr rfl)) rfl rfl ?_
    refine GL.val (by exact (by first | exact Ev.load_blk rfl rfl (BlkRd.of_pick (by (repeat (first | exact Pick.head | apply Pick.tail)); fail_if_success (focus skip))) Imp.refl (by rfl) | exact Ev.load_blk rfl rfl (by assumption) (by first | exact Imp.refl | exact Imp.nil | ((repeat (first | exact Imp.refl | refine Imp.cons ?_)); fail_if_success (focus skip))) (by rfl))) rfl rfl ?_
    refine GL.nil ?_
    refine GE.seq ?_
    refine GC.block ?_
    refine GC.seq ?_
    refine GC.region ?_
    refine GL.val (by exact EvP.r (Ev.eql rfl rfl)) rfl rfl ?_
    refine GL.val (by exact EvP.r (Ev.assign rfl)) rfl rfl ?_
    refine GL.nil ?_
    refine GE.seq ?_
    first | refine GC.if_dec rfl (fun h1 => ?_) (fun h1 => ?_) | refine GC.if_ndec rfl (fun h1 => ?_) (fun h1 => ?_) | refine GC.if_not rfl (fun h1 => ?_) (fun h1 => ?_) | refine GC.if_bool rfl (fun h1 => ?_) (fun h1 => ?_)
    · -- T
      refine GC.seq ?_
      refine GC.region ?_
      refine GL.val (by exact EvP.r (Ev.fieldAddr rfl)) rfl rfl ?_
      refine GL.val (by exact (by first | exact Ev.load_blk rfl rfl (BlkRd.of_pick (by (repeat (first | exact Pick.head | apply Pick.tail)); fail_if_success (focus skip))) Imp.refl (by rfl) | exact Ev.load_blk rfl rfl (by assumption) (by first | exact Imp.refl | exact Imp.nil | ((repeat (first | exact Imp.refl | refine Imp.cons ?_)); fail_if_success (focus skip))) (by rfl))) rfl rfl ?_
      refine GL.buildSlice rfl (by first | exact bsInt0 | exact bsInt1 _ | exact bsInt2 _ _ | exact bsInt3 _ _ _ | exact bsInt4 _ _ _ _ | exact bsInt5 _ _ _ _ _ | exact bsInt6 _ _ _ _ _ _ | exact bsInt7 _ _ _ _ _ _ _ | exact bsInt8 _ _ _ _ _ _ _ _ | exact bsInt9 _ _ _ _ _ _ _ _ _ | exact bsInt10 _ _ _ _ _ _ _ _ _ _ | exact bsPart0 | exact bsPart1 ⟨_, _, _, _, _⟩ | exact bsNode1 ⟨_, _, _, _⟩ | exact bsPtr3 _ _ _) rfl (by decide) rfl ?_; intro g27
      refine GL.val (by exact EvP.r (Ev.assign rfl)) rfl rfl ?_
      refine GL.val (by exact EvP.r (Ev.assign rfl)) rfl rfl ?_
      refine GL.nil ?_
      refine GE.seq ?_
      refine GC.ret ?_
      refine GE.block_ret ?_
      refine GE.seq_ret ?_
      -- returns, path T
      refine GE.ret_tmp2 (L' := row intE (some ⟨g27, 0, none⟩) 0 [] :: X) (.inl rfl) rfl rfl rfl (by first | exact Sub.refl | exact Sub.nil | (repeat (first | exact Sub.refl | exact Sub.nil | refine Sub.cons (by (repeat (first | exact Pick.head | apply Pick.tail)); fail_if_success (focus skip)) ?_ | refine Sub.drop ?_))) ?_
      rw [evL_num hi h1]
      exact ⟨_, _, rfl, rfl⟩
    · -- F
      refine GC.seq ?_
      refine GC.region ?_
      refine GL.val (by exact EvP.r (Ev.eql rfl rfl)) rfl rfl ?_
      refine GL.val (by exact EvP.r (Ev.assign rfl)) rfl rfl ?_
      refine GL.nil ?_
      refine GE.seq ?_
      first | refine GC.if_dec rfl (fun h2 => ?_) (fun h2 => ?_) | refine GC.if_ndec rfl (fun h2 => ?_) (fun h2 => ?_) | refine GC.if_not rfl (fun h2 => ?_) (fun h2 => ?_) | refine GC.if_bool rfl (fun h2 => ?_) (fun h2 => ?_)
      · -- FT
        have hgv := hf.give ⟨_, List.getElem_mem hi, h2, rfl⟩
        refine GC.seq ?_
        refine GC.region_any #[false, false, false, false, false, false, false, true, false, false] mixed ?_
        refine GA.take 0 #[false, true, true, false, false, true, true, true, false, false] rfl (by exact Ev.move rfl) rfl rfl (by kernel_rfl) rfl (by kernel_rfl) (by kernel_rfl) (fun _ _ _ h => h) ?_
        refine GA.take 1 #[true, false, false, false, false, true, true, true, false, false] rfl (by exact Ev.fieldAddr rfl) rfl rfl (by kernel_rfl) rfl (by kernel_rfl) (by kernel_rfl) (fun _ _ _ h => h) ?_
        refine GA.read 2 #[true, true, false, false, false, true, true, true, false, false] rfl (by exact (by first | exact Ev.load_blk rfl rfl (BlkRd.of_pick (by (repeat (first | exact Pick.head | apply Pick.tail)); fail_if_success (focus skip))) Imp.refl (by rfl) | exact Ev.load_blk rfl rfl (by assumption) (by first | exact Imp.refl | exact Imp.nil | ((repeat (first | exact Imp.refl | refine Imp.cons ?_)); fail_if_success (focus skip))) (by rfl))) rfl rfl (by kernel_rfl) rfl (by kernel_rfl) (by kernel_rfl) (fun _ _ _ h => h) ?_
        refine GA.read 3 #[true, true, true, false, false, true, true, true, false, false] rfl (by exact (by first | exact Ev.index rfl rfl (by assumption) (by first | exact Imp.refl | exact Imp.nil | ((repeat (first | exact Imp.refl | refine Imp.cons ?_)); fail_if_success (focus skip))) (by first | rfl | exact (Int.toNat_of_nonneg (by omega)).symm) (by first | omega | (show 0 < _; omega) | (simp; omega)) (by first | exact Nat.le_refl _ | (simp; done) | omega | (simp; omega)) | exact Ev.index rfl rfl (Rd.of_pick (by (repeat (first | exact Pick.head | apply Pick.tail)); fail_if_success (focus skip))) Imp.refl (by first | rfl | exact (Int.toNat_of_nonneg (by omega)).symm) (by first | omega | (show 0 < _; omega) | (simp; omega)) (by first | exact Nat.le_refl _ | (simp; done) | omega | (simp; omega)))) rfl rfl (by kernel_rfl) rfl (by kernel_rfl) (by kernel_rfl) (fun _ _ _ h => h) ?_
        refine GA.read 4 #[true, true, true, true, false, true, true, true, false, false] rfl (by exact (by first | exact Ev.load_el rfl (by assumption) (by first | exact Imp.refl | exact Imp.nil | ((repeat (first | exact Imp.refl | refine Imp.cons ?_)); fail_if_success (focus skip))) rfl rfl rfl (List.getElem?_eq_getElem (by first | omega | (simp; done) | (simp; omega))) | exact Ev.load_el rfl (Rd.of_pick (by (repeat (first | exact Pick.head | apply Pick.tail)); fail_if_success (focus skip))) Imp.refl rfl rfl rfl (List.getElem?_eq_getElem (by first | omega | (simp; done) | (simp; omega))))) rfl rfl (by kernel_rfl) rfl (by kernel_rfl) (by kernel_rfl) (fun _ _ _ h => h) ?_
        refine GA.take 5 #[true, true, true, true, true, false, false, false, true, false] rfl (by exact Ev.fieldAddr rfl) rfl rfl (by kernel_rfl) rfl (by kernel_rfl) (by kernel_rfl) (fun _ _ _ h => h) ?_
        refine GA.read 6 #[true, true, true, true, true, true, false, false, true, false] rfl (by exact (by first | exact Ev.load_blk rfl rfl (BlkRd.of_pick (by (repeat (first | exact Pick.head | apply Pick.tail)); fail_if_success (focus skip))) Imp.refl (by rfl) | exact Ev.load_blk rfl rfl (by assumption) (by first | exact Imp.refl | exact Imp.nil | ((repeat (first | exact Imp.refl | refine Imp.cons ?_)); fail_if_success (focus skip))) (by rfl))) rfl rfl (by kernel_rfl) rfl (by kernel_rfl) (by kernel_rfl) (fun _ _ _ h => h) ?_
        refine GA.take 8 #[true, true, true, true, true, true, true, true, false, false] rfl (by exact Ev.assign rfl) rfl rfl (by kernel_rfl) rfl (by kernel_rfl) (by kernel_rfl) (fun _ _ _ h => h) ?_
        refine GA.branch (rs := [7]) (JOk.live (by exact (by first | exact Ev.load_blk rfl rfl (BlkRd.of_pick (by (repeat (first | exact Pick.head | apply Pick.tail)); fail_if_success (focus skip))) Imp.refl (by rfl) | exact Ev.load_blk rfl rfl (by assumption) (by first | exact Imp.refl | exact Imp.nil | ((repeat (first | exact Imp.refl | refine Imp.cons ?_)); fail_if_success (focus skip))) (by rfl))) (JOk.live (by exact (by first | exact Ev.load_el rfl (by assumption) (by first | exact Imp.refl | exact Imp.nil | ((repeat (first | exact Imp.refl | refine Imp.cons ?_)); fail_if_success (focus skip))) rfl rfl rfl (List.getElem?_eq_getElem (by first | omega | (simp; done) | (simp; omega))) | exact Ev.load_el rfl (Rd.of_pick (by (repeat (first | exact Pick.head | apply Pick.tail)); fail_if_success (focus skip))) Imp.refl rfl rfl rfl (List.getElem?_eq_getElem (by first | omega | (simp; done) | (simp; omega))))) (JOk.live (by exact (by first | exact Ev.index rfl rfl (by assumption) (by first | exact Imp.refl | exact Imp.nil | ((repeat (first | exact Imp.refl | refine Imp.cons ?_)); fail_if_success (focus skip))) (by first | rfl | exact (Int.toNat_of_nonneg (by omega)).symm) (by first | omega | (show 0 < _; omega) | (simp; omega)) (by first | exact Nat.le_refl _ | (simp; done) | omega | (simp; omega)) | exact Ev.index rfl rfl (Rd.of_pick (by (repeat (first | exact Pick.head | apply Pick.tail)); fail_if_success (focus skip))) Imp.refl (by first | rfl | exact (Int.toNat_of_nonneg (by omega)).symm) (by first | omega | (show 0 < _; omega) | (simp; omega)) (by first | exact Nat.le_refl _ | (simp; done) | omega | (simp; omega)))) (JOk.live (by exact (by first | exact Ev.load_blk rfl rfl (BlkRd.of_pick (by (repeat (first | exact Pick.head | apply Pick.tail)); fail_if_success (focus skip))) Imp.refl (by rfl) | exact Ev.load_blk rfl rfl (by assumption) (by first | exact Imp.refl | exact Imp.nil | ((repeat (first | exact Imp.refl | refine Imp.cons ?_)); fail_if_success (focus skip))) (by rfl))) JOk.nil)))) (by kernel_rfl) (by simp) ?_
        refine GAs.cons rfl ?_ ?_
        · -- FT op 7
          refine GL.buildSlice rfl (by first | exact bsInt0 | exact bsInt1 _ | exact bsInt2 _ _ | exact bsInt3 _ _ _ | exact bsInt4 _ _ _ _ | exact bsInt5 _ _ _ _ _ | exact bsInt6 _ _ _ _ _ _ | exact bsInt7 _ _ _ _ _ _ _ | exact bsInt8 _ _ _ _ _ _ _ _ | exact bsInt9 _ _ _ _ _ _ _ _ _ | exact bsInt10 _ _ _ _ _ _ _ _ _ _ | exact bsPart0 | exact bsPart1 ⟨_, _, _, _, _⟩ | exact bsNode1 ⟨_, _, _, _⟩ | exact bsPtr3 _ _ _) rfl (by decide) rfl ?_; intro g37
          refine GL.nil ?_
          refine GE.any ?_
          refine GA.take 9 #[true, true, true, true, true, true, true, true, true, false] rfl (by exact Ev.assign rfl) rfl rfl (by kernel_rfl) rfl (by kernel_rfl) (by kernel_rfl) (fun _ _ _ h => h) ?_
          refine GA.done (JOk.dead (by kernel_rfl) (JOk.live (by exact (by first | exact Ev.load_el rfl (by assumption) (by first | exact Imp.refl | exact Imp.nil | ((repeat (first | exact Imp.refl | refine Imp.cons ?_)); fail_if_success (focus skip))) rfl rfl rfl (List.getElem?_eq_getElem (by first | omega | (simp; done) | (simp; omega))) | exact Ev.load_el rfl (Rd.of_pick (by (repeat (first | exact Pick.head | apply Pick.tail)); fail_if_success (focus skip))) Imp.refl rfl rfl rfl (List.getElem?_eq_getElem (by first | omega | (simp; done) | (simp; omega))))) (JOk.live (by exact (by first | exact Ev.index rfl rfl (by assumption) (by first | exact Imp.refl | exact Imp.nil | ((repeat (first | exact Imp.refl | refine Imp.cons ?_)); fail_if_success (focus skip))) (by first | rfl | exact (Int.toNat_of_nonneg (by omega)).symm) (by first | omega | (show 0 < _; omega) | (simp; omega)) (by first | exact Nat.le_refl _ | (simp; done) | omega | (simp; omega)) | exact Ev.index rfl rfl (Rd.of_pick (by (repeat (first | exact Pick.head | apply Pick.tail)); fail_if_success (focus skip))) Imp.refl (by first | rfl | exact (Int.toNat_of_nonneg (by omega)).symm) (by first | omega | (show 0 < _; omega) | (simp; omega)) (by first | exact Nat.le_refl _ | (simp; done) | omega | (simp; omega)))) (JOk.live (by exact (by first | exact Ev.load_blk rfl rfl (BlkRd.of_pick (by (repeat (first | exact Pick.head | apply Pick.tail)); fail_if_success (focus skip))) Imp.refl (by rfl) | exact Ev.load_blk rfl rfl (by assumption) (by first | exact Imp.refl | exact Imp.nil | ((repeat (first | exact Imp.refl | refine Imp.cons ?_)); fail_if_success (focus skip))) (by rfl))) JOk.nil)))) (by kernel_rfl) ?_
          refine GE.seq ?_
          refine GC.ret ?_
          refine GE.block_ret ?_
          refine GE.seq_ret ?_
          -- returns, path FT
          refine GE.ret_tmp2 (L' := row intE (some ⟨g37, 0, none⟩) 1 [ps[i].n] :: X) (.inl rfl) rfl rfl rfl (by first | exact Sub.refl | exact Sub.nil | (repeat (first | exact Sub.refl | exact Sub.nil | refine Sub.cons (by (repeat (first | exact Pick.head | apply Pick.tail)); fail_if_success (focus skip)) ?_ | refine Sub.drop ?_))) ?_
          rw [evL_read hi h2, at0_eq]
          exact ⟨_, _, rfl, rfl⟩
        exact GAs.nil
      · -- FF
        have hab : (0 ≤ ps[i].a ∧ ps[i].a < i) ∧ (0 ≤ ps[i].b ∧ ps[i].b < i) := by
          by_cases h8 : ps[i].kind = 8
          · have := good_if hg h8; omega
          · have := good_bin hg h1 h2 h8; omega
        refine GC.skip ?_
        refine GE.block ?_
        refine GE.seq ?_
        refine GC.seq ?_
        refine GC.region ?_
        refine GL.val (by exact (by first | exact Ev.load_blk_all rfl rfl (BlkRd.of_pick (by (repeat (first | exact Pick.head | apply Pick.tail)); fail_if_success (focus skip))) Imp.refl (by rfl) | exact Ev.load_blk_all rfl rfl (by assumption) (by first | exact Imp.refl | exact Imp.nil | ((repeat (first | exact Imp.refl | refine Imp.cons ?_)); fail_if_success (focus skip))) (by rfl))) rfl rfl ?_
        refine GL.val (by exact EvP.r (Ev.move rfl)) rfl rfl ?_
        refine GL.val (by exact EvP.r (Ev.fieldAddr rfl)) rfl rfl ?_
        refine GL.val (by exact (by first | exact Ev.load_blk rfl rfl (BlkRd.of_pick (by (repeat (first | exact Pick.head | apply Pick.tail)); fail_if_success (focus skip))) Imp.refl (by rfl) | exact Ev.load_blk rfl rfl (by assumption) (by first | exact Imp.refl | exact Imp.nil | ((repeat (first | exact Imp.refl | refine Imp.cons ?_)); fail_if_success (focus skip))) (by rfl))) rfl rfl ?_
        refine GL.call rfl rfl (ih ps[i].a.toNat (by omega) (by omega) _ (by repeat (first | exact hIX | refine Imp.cons ?_)) _ (by omega)) ?_
        rintro _ _ ⟨B1, d1, rfl, rfl⟩
        have hla := hlen ps[i].a.toNat (by omega)
        have hja := hin ps[i].a.toNat (by omega)
        refine GL.val (by exact EvP.r (Ev.move rfl)) rfl rfl ?_
        refine GL.val (by exact EvP.r (Ev.extract rfl rfl)) rfl rfl ?_
        refine GL.val (by exact EvP.r (Ev.extract rfl rfl)) rfl rfl ?_
        refine GL.val (by exact EvP.r (Ev.assign rfl)) rfl rfl ?_
        refine GL.val (by exact EvP.r (Ev.assign rfl)) rfl rfl ?_
        refine GL.nil ?_
        refine GE.seq ?_
        refine GC.seq ?_
        refine GC.seq ?_
        refine GC.region ?_
        refine GL.val (by exact EvP.r (Ev.fieldAddr rfl)) rfl rfl ?_
        refine GL.val (by exact (by first | exact Ev.load_blk rfl rfl (BlkRd.of_pick (by (repeat (first | exact Pick.head | apply Pick.tail)); fail_if_success (focus skip))) Imp.refl (by rfl) | exact Ev.load_blk rfl rfl (by assumption) (by first | exact Imp.refl | exact Imp.nil | ((repeat (first | exact Imp.refl | refine Imp.cons ?_)); fail_if_success (focus skip))) (by rfl))) rfl rfl ?_
        refine GL.val (by exact EvP.r (Ev.eql rfl rfl)) rfl rfl ?_
        refine GL.nil ?_
        refine GE.seq ?_
        first | refine GC.if_dec rfl (fun h3 => ?_) (fun h3 => ?_) | refine GC.if_ndec rfl (fun h3 => ?_) (fun h3 => ?_) | refine GC.if_not rfl (fun h3 => ?_) (fun h3 => ?_) | refine GC.if_bool rfl (fun h3 => ?_) (fun h3 => ?_)
        · -- FFT
          have hc3 := (good_if hg h3).2.2.2
          refine GC.seq ?_
          refine GC.region ?_
          refine GL.val (by exact EvP.r (Ev.fieldAddr rfl)) rfl rfl ?_
          refine GL.val (by exact (by first | exact Ev.load_blk rfl rfl (BlkRd.of_pick (by (repeat (first | exact Pick.head | apply Pick.tail)); fail_if_success (focus skip))) Imp.refl (by rfl) | exact Ev.load_blk rfl rfl (by assumption) (by first | exact Imp.refl | exact Imp.nil | ((repeat (first | exact Imp.refl | refine Imp.cons ?_)); fail_if_success (focus skip))) (by rfl))) rfl rfl ?_
          refine GL.val (by exact EvP.r (Ev.assign rfl)) rfl rfl ?_
          refine GL.nil ?_
          refine GE.seq ?_
          refine GC.seq ?_
          refine GC.seq ?_
          refine GC.region ?_
          refine GL.val (by exact EvP.r (Ev.move rfl)) rfl rfl ?_
          refine GL.val (by exact EvP.r (Ev.eql rfl rfl)) rfl rfl ?_
          refine GL.nil ?_
          refine GE.seq ?_
          first | refine GC.if_dec rfl (fun h4 => ?_) (fun h4 => ?_) | refine GC.if_ndec rfl (fun h4 => ?_) (fun h4 => ?_) | refine GC.if_not rfl (fun h4 => ?_) (fun h4 => ?_) | refine GC.if_bool rfl (fun h4 => ?_) (fun h4 => ?_)
          · -- FFTT
            have hlc := hlen ps[i].c.toNat (by omega)
            refine GC.region ?_
            refine GL.val (by exact EvP.r (Ev.fieldAddr rfl)) rfl rfl ?_
            refine GL.val (by exact (by first | exact Ev.load_blk rfl rfl (BlkRd.of_pick (by (repeat (first | exact Pick.head | apply Pick.tail)); fail_if_success (focus skip))) Imp.refl (by rfl) | exact Ev.load_blk rfl rfl (by assumption) (by first | exact Imp.refl | exact Imp.nil | ((repeat (first | exact Imp.refl | refine Imp.cons ?_)); fail_if_success (focus skip))) (by rfl))) rfl rfl ?_
            refine GL.val (by exact EvP.r (Ev.assign rfl)) rfl rfl ?_
            refine GL.nil ?_
            refine GE.seq ?_
            refine GC.seq ?_
            refine GC.region ?_
            refine GL.val (by exact (by first | exact Ev.load_blk_all rfl rfl (BlkRd.of_pick (by (repeat (first | exact Pick.head | apply Pick.tail)); fail_if_success (focus skip))) Imp.refl (by rfl) | exact Ev.load_blk_all rfl rfl (by assumption) (by first | exact Imp.refl | exact Imp.nil | ((repeat (first | exact Imp.refl | refine Imp.cons ?_)); fail_if_success (focus skip))) (by rfl))) rfl rfl ?_
            refine GL.val (by exact EvP.r (Ev.move rfl)) rfl rfl ?_
            refine GL.val (by exact EvP.r (Ev.move rfl)) rfl rfl ?_
            first | (refine GL.call rfl rfl (ih ps[i].c.toNat (by omega) (by omega) _ (by repeat (first | exact hIX | refine Imp.cons ?_)) _ (by show ps[i].c = _; omega)) ?_; rintro _ _ ⟨B2, d2, rfl, rfl⟩) | (refine GL.call rfl rfl (ih ps[i].b.toNat (by omega) (by omega) _ (by repeat (first | exact hIX | refine Imp.cons ?_)) _ (by show ps[i].b = _; omega)) ?_; rintro _ _ ⟨B2, d2, rfl, rfl⟩)
            refine GL.val (by exact EvP.r (Ev.move rfl)) rfl rfl ?_
            refine GL.val (by exact EvP.r (Ev.extract rfl rfl)) rfl rfl ?_
            refine GL.val (by exact EvP.r (Ev.extract rfl rfl)) rfl rfl ?_
            refine GL.val (by exact EvP.r (Ev.assign rfl)) rfl rfl ?_
            refine GL.val (by exact EvP.r (Ev.assign rfl)) rfl rfl ?_
            refine GL.nil ?_
            refine GE.seq ?_
            refine GC.seq ?_
            refine GC.region ?_
            refine GL.val (by exact EvP.r (Ev.move rfl)) rfl rfl ?_
            refine GL.val (by exact EvP.r (Ev.move rfl)) rfl rfl ?_
            refine GL.val (by exact EvP.r (Ev.move rfl)) rfl rfl ?_
            first | (refine GL.append rfl rfl (by (repeat (first | exact Pick.head | apply Pick.tail)); fail_if_success (focus skip)) (by assumption) (by first | exact Imp.refl | exact Imp.nil | ((repeat (first | exact Imp.refl | refine Imp.cons ?_)); fail_if_success (focus skip))) (by first | rfl | (simp; done) | (simp; omega)) (by first | rfl | (simp; done) | (simp; omega)) (by first | omega | (simp; omega)) (by first | omega | (simp; omega)) rfl ?_; intro A65 c65) | (refine GL.append rfl rfl (by (repeat (first | exact Pick.head | apply Pick.tail)); fail_if_success (focus skip)) (Rd.of_pick (by (repeat (first | exact Pick.head | apply Pick.tail)); fail_if_success (focus skip))) Imp.refl (by first | rfl | (simp; done) | (simp; omega)) (by first | rfl | (simp; done) | (simp; omega)) (by first | omega | (simp; omega)) (by first | omega | (simp; omega)) rfl ?_; intro A65 c65)
            refine GL.val (by exact EvP.r (Ev.assign rfl)) rfl rfl ?_
            refine GL.val (by exact EvP.r (Ev.assign rfl)) rfl rfl ?_
            refine GL.nil ?_
            refine GE.seq ?_
            refine GC.ret ?_
            refine GE.seq_ret ?_
            -- returns, path FFTT
            refine GE.ret_tmp2 (L' := row intE A65 c65 ((evL ps (valF xs) ps[i].a.toNat).2 ++ _) :: X) (.inl rfl) rfl rfl rfl (by first | exact Sub.refl | exact Sub.nil | (repeat (first | exact Sub.refl | exact Sub.nil | refine Sub.cons (by (repeat (first | exact Pick.head | apply Pick.tail)); fail_if_success (focus skip)) ?_ | refine Sub.drop ?_))) ?_
            rw [evL_else hi hg h3 h4]
            exact ⟨_, _, rfl, rfl⟩
          · -- FFTF
            have hlc := hlen ps[i].b.toNat (by omega)
            refine GC.skip ?_
            refine GE.seq ?_
            refine GC.seq ?_
            refine GC.region ?_
            refine GL.val (by exact (by first | exact Ev.load_blk_all rfl rfl (BlkRd.of_pick (by (repeat (first | exact Pick.head | apply Pick.tail)); fail_if_success (focus skip))) Imp.refl (by rfl) | exact Ev.load_blk_all rfl rfl (by assumption) (by first | exact Imp.refl | exact Imp.nil | ((repeat (first | exact Imp.refl | refine Imp.cons ?_)); fail_if_success (focus skip))) (by rfl))) rfl rfl ?_
            refine GL.val (by exact EvP.r (Ev.move rfl)) rfl rfl ?_
            refine GL.val (by exact EvP.r (Ev.move rfl)) rfl rfl ?_
            first | (refine GL.call rfl rfl (ih ps[i].c.toNat (by omega) (by omega) _ (by repeat (first | exact hIX | refine Imp.cons ?_)) _ (by show ps[i].c = _; omega)) ?_; rintro _ _ ⟨B2, d2, rfl, rfl⟩) | (refine GL.call rfl rfl (ih ps[i].b.toNat (by omega) (by omega) _ (by repeat (first | exact hIX | refine Imp.cons ?_)) _ (by show ps[i].b = _; omega)) ?_; rintro _ _ ⟨B2, d2, rfl, rfl⟩)
            refine GL.val (by exact EvP.r (Ev.move rfl)) rfl rfl ?_
            refine GL.val (by exact EvP.r (Ev.extract rfl rfl)) rfl rfl ?_
            refine GL.val (by exact EvP.r (Ev.extract rfl rfl)) rfl rfl ?_
            refine GL.val (by exact EvP.r (Ev.assign rfl)) rfl rfl ?_
            refine GL.val (by exact EvP.r (Ev.assign rfl)) rfl rfl ?_
            refine GL.nil ?_
            refine GE.seq ?_
            refine GC.seq ?_
            refine GC.region ?_
            refine GL.val (by exact EvP.r (Ev.move rfl)) rfl rfl ?_
            refine GL.val (by exact EvP.r (Ev.move rfl)) rfl rfl ?_
            refine GL.val (by exact EvP.r (Ev.move rfl)) rfl rfl ?_
            first | (refine GL.append rfl rfl (by (repeat (first | exact Pick.head | apply Pick.tail)); fail_if_success (focus skip)) (by assumption) (by first | exact Imp.refl | exact Imp.nil | ((repeat (first | exact Imp.refl | refine Imp.cons ?_)); fail_if_success (focus skip))) (by first | rfl | (simp; done) | (simp; omega)) (by first | rfl | (simp; done) | (simp; omega)) (by first | omega | (simp; omega)) (by first | omega | (simp; omega)) rfl ?_; intro A65 c65) | (refine GL.append rfl rfl (by (repeat (first | exact Pick.head | apply Pick.tail)); fail_if_success (focus skip)) (Rd.of_pick (by (repeat (first | exact Pick.head | apply Pick.tail)); fail_if_success (focus skip))) Imp.refl (by first | rfl | (simp; done) | (simp; omega)) (by first | rfl | (simp; done) | (simp; omega)) (by first | omega | (simp; omega)) (by first | omega | (simp; omega)) rfl ?_; intro A65 c65)
            refine GL.val (by exact EvP.r (Ev.assign rfl)) rfl rfl ?_
            refine GL.val (by exact EvP.r (Ev.assign rfl)) rfl rfl ?_
            refine GL.nil ?_
            refine GE.seq ?_
            refine GC.ret ?_
            refine GE.seq_ret ?_
            -- returns, path FFTF
            refine GE.ret_tmp2 (L' := row intE A65 c65 ((evL ps (valF xs) ps[i].a.toNat).2 ++ _) :: X) (.inl rfl) rfl rfl rfl (by first | exact Sub.refl | exact Sub.nil | (repeat (first | exact Sub.refl | exact Sub.nil | refine Sub.cons (by (repeat (first | exact Pick.head | apply Pick.tail)); fail_if_success (focus skip)) ?_ | refine Sub.drop ?_))) ?_
            rw [evL_if hi hg h3 h4]
            exact ⟨_, _, rfl, rfl⟩
        · -- FFF
          refine GC.skip ?_
          refine GE.seq ?_
          refine GC.seq ?_
          refine GC.region ?_
          refine GL.val (by exact (by first | exact Ev.load_blk_all rfl rfl (BlkRd.of_pick (by (repeat (first | exact Pick.head | apply Pick.tail)); fail_if_success (focus skip))) Imp.refl (by rfl) | exact Ev.load_blk_all rfl rfl (by assumption) (by first | exact Imp.refl | exact Imp.nil | ((repeat (first | exact Imp.refl | refine Imp.cons ?_)); fail_if_success (focus skip))) (by rfl))) rfl rfl ?_
          refine GL.val (by exact EvP.r (Ev.move rfl)) rfl rfl ?_
          refine GL.val (by exact EvP.r (Ev.fieldAddr rfl)) rfl rfl ?_
          refine GL.val (by exact (by first | exact Ev.load_blk rfl rfl (BlkRd.of_pick (by (repeat (first | exact Pick.head | apply Pick.tail)); fail_if_success (focus skip))) Imp.refl (by rfl) | exact Ev.load_blk rfl rfl (by assumption) (by first | exact Imp.refl | exact Imp.nil | ((repeat (first | exact Imp.refl | refine Imp.cons ?_)); fail_if_success (focus skip))) (by rfl))) rfl rfl ?_
          refine GL.call rfl rfl (ih ps[i].b.toNat (by omega) (by omega) _ (by repeat (first | exact hIX | refine Imp.cons ?_)) _ (by omega)) ?_
          rintro _ _ ⟨B2, d2, rfl, rfl⟩
          have hlb := hlen ps[i].b.toNat (by omega)
          have hjb := hin ps[i].b.toNat (by omega)
          refine GL.val (by exact EvP.r (Ev.move rfl)) rfl rfl ?_
          refine GL.val (by exact EvP.r (Ev.extract rfl rfl)) rfl rfl ?_
          refine GL.val (by exact EvP.r (Ev.extract rfl rfl)) rfl rfl ?_
          refine GL.val (by exact EvP.r (Ev.assign rfl)) rfl rfl ?_
          refine GL.val (by exact EvP.r (Ev.assign rfl)) rfl rfl ?_
          refine GL.nil ?_
          refine GE.seq ?_
          refine GC.seq ?_
          refine GC.region ?_
          refine GL.val (by exact EvP.r (Ev.fieldAddr rfl)) rfl rfl ?_
          refine GL.val (by exact (by first | exact Ev.load_blk rfl rfl (BlkRd.of_pick (by (repeat (first | exact Pick.head | apply Pick.tail)); fail_if_success (focus skip))) Imp.refl (by rfl) | exact Ev.load_blk rfl rfl (by assumption) (by first | exact Imp.refl | exact Imp.nil | ((repeat (first | exact Imp.refl | refine Imp.cons ?_)); fail_if_success (focus skip))) (by rfl))) rfl rfl ?_
          refine GL.val (by exact EvP.r (Ev.move rfl)) rfl rfl ?_
          refine GL.val (by exact EvP.r (Ev.move rfl)) rfl rfl ?_
          refine GL.callF rfl rfl (joined_spec _ _ _ _ _ (by assumption) (by assumption)) ?_
          refine GL.val (by exact EvP.r (Ev.move rfl)) rfl rfl ?_
          refine GL.val (by exact EvP.r (Ev.move rfl)) rfl rfl ?_
          first | (refine GL.append rfl rfl (by (repeat (first | exact Pick.head | apply Pick.tail)); fail_if_success (focus skip)) (by assumption) (by first | exact Imp.refl | exact Imp.nil | ((repeat (first | exact Imp.refl | refine Imp.cons ?_)); fail_if_success (focus skip))) (by first | rfl | (simp; done) | (simp; omega)) (by first | rfl | (simp; done) | (simp; omega)) (by first | omega | (simp; omega)) (by first | omega | (simp; omega)) rfl ?_; intro A81 c81) | (refine GL.append rfl rfl (by (repeat (first | exact Pick.head | apply Pick.tail)); fail_if_success (focus skip)) (Rd.of_pick (by (repeat (first | exact Pick.head | apply Pick.tail)); fail_if_success (focus skip))) Imp.refl (by first | rfl | (simp; done) | (simp; omega)) (by first | rfl | (simp; done) | (simp; omega)) (by first | omega | (simp; omega)) (by first | omega | (simp; omega)) rfl ?_; intro A81 c81)
          refine GL.val (by exact EvP.r (Ev.assign rfl)) rfl rfl ?_
          refine GL.val (by exact EvP.r (Ev.assign rfl)) rfl rfl ?_
          refine GL.nil ?_
          refine GE.seq ?_
          refine GC.ret ?_
          -- returns, path FFF
          refine GE.ret_tmp2 (L' := row intE A81 c81 ((evL ps (valF xs) ps[i].a.toNat).2 ++ (evL ps (valF xs) ps[i].b.toNat).2) :: X) (.inl rfl) rfl rfl rfl (by first | exact Sub.refl | exact Sub.nil | (repeat (first | exact Sub.refl | exact Sub.nil | refine Sub.cons (by (repeat (first | exact Pick.head | apply Pick.tail)); fail_if_success (focus skip)) ?_ | refine Sub.drop ?_))) ?_
          rw [evL_bin hi hg h1 h2 h3]
          exact ⟨_, _, rfl, rfl⟩
theorem firstOnly_spec (w0 : World) (L : List Asn) (A : Option Addr) (c : Nat) (xs : List Int) (hX : Rd w0 L intE A c xs) (hl : xs.length ≤ 10000) :
    Tr Try.prog 88 #[.slice A xs.length c] w0 L (fun v L' => ∃ B d, v = .slice B (addAll [] xs).length d ∧ L' = row intE B d (addAll [] xs) :: L) := by
  refine Tr.enter (args := [.slice A xs.length c]) Try.func88 Try.ntmps88 rfl rfl ?_
  refine GC.seq ?_
  refine GC.region ?_
  refine GL.val (by exact EvP.r (Ev.assign rfl)) rfl rfl ?_
  refine GL.nil ?_
  refine GE.seq ?_
  refine GC.seq ?_
  refine GC.region ?_
  refine GL.buildSlice rfl (by first | exact bsInt0 | exact bsInt1 _ | exact bsInt2 _ _ | exact bsInt3 _ _ _ | exact bsInt4 _ _ _ _ | exact bsInt5 _ _ _ _ _ | exact bsInt6 _ _ _ _ _ _ | exact bsInt7 _ _ _ _ _ _ _ | exact bsInt8 _ _ _ _ _ _ _ _ | exact bsInt9 _ _ _ _ _ _ _ _ _ | exact bsInt10 _ _ _ _ _ _ _ _ _ _ | exact bsPart0 | exact bsPart1 ⟨_, _, _, _, _⟩ | exact bsNode1 ⟨_, _, _, _⟩ | exact bsPtr3 _ _ _) rfl (by decide) rfl ?_; intro g5
  refine GL.val (by exact EvP.r (Ev.assign rfl)) rfl rfl ?_
  refine GL.nil ?_
  refine GE.seq ?_
  refine GC.seq ?_
  refine GC.seq ?_
  refine GC.region ?_
  refine GL.val (by exact EvP.r (Ev.assign rfl)) rfl rfl ?_
  refine GL.nil ?_
  refine GE.seq ?_
  refine GC.block ?_
  -- loop 1: carried slots [3, 4]
  refine GC.loopK (α := Nat × Option Addr × Nat) (fun x => x.1 ≤ xs.length) (fun x => [(3, .slice x.2.1 (addAll [] (xs.take x.1)).length x.2.2), (4, .int .i64 x.1)]) [(0, _)] (fun x => row intE x.2.1 x.2.2 (addAll [] (xs.take x.1)) :: L) (fun x => xs.length - x.1) (0, some ⟨g5, 0, none⟩, 0) (by repeat (first | exact Keeps.nil | refine Keeps.cons rfl ?_)) (by first | exact Sub.refl | exact Sub.nil | (repeat (first | exact Sub.refl | exact Sub.nil | refine Sub.cons (by (repeat (first | exact Pick.head | apply Pick.tail)); fail_if_success (focus skip)) ?_ | refine Sub.drop ?_))) (Nat.zero_le _) ?_
  rintro ⟨i, B, d⟩ hi
  dsimp only at hi ⊢
  have hal := addAll_length (xs.take i) []
  rw [List.length_take] at hal
  simp only [List.length_nil] at hal
  refine GC.seq ?_
  refine GC.seq ?_
  refine GC.region ?_
  refine GL.val (by exact EvP.r (Ev.move rfl)) rfl rfl ?_
  refine GL.val (by exact EvP.r (Ev.move rfl)) rfl rfl ?_
  refine GL.val (by exact EvP.r (Ev.len rfl)) rfl rfl ?_
  refine GL.val (by exact EvP.r (Ev.lss rfl rfl)) rfl rfl ?_
  refine GL.nil ?_
  refine GE.seq ?_
  first | refine GC.if_dec rfl (fun h1 => ?_) (fun h1 => ?_) | refine GC.if_ndec rfl (fun h1 => ?_) (fun h1 => ?_) | refine GC.if_not rfl (fun h1 => ?_) (fun h1 => ?_) | refine GC.if_bool rfl (fun h1 => ?_) (fun h1 => ?_)
  · -- T
    have hil : i < xs.length := by omega
    have hnx := addAll_take_succ hil
    refine GC.skip ?_
    refine GE.seq ?_
    refine GC.seq ?_
    refine GC.block ?_
    refine GC.seq ?_
    refine GC.region ?_
    refine GL.val (by exact EvP.r (Ev.move rfl)) rfl rfl ?_
    refine GL.val (by exact EvP.r (Ev.move rfl)) rfl rfl ?_
    refine GL.val (by exact EvP.r (Ev.move rfl)) rfl rfl ?_
    refine GL.val (by exact (by first | exact Ev.index rfl rfl (by assumption) (by first | exact Imp.refl | exact Imp.nil | ((repeat (first | exact Imp.refl | refine Imp.cons ?_)); fail_if_success (focus skip))) (by first | rfl | exact (Int.toNat_of_nonneg (by omega)).symm) (by first | omega | (show 0 < _; omega) | (simp; omega)) (by first | exact Nat.le_refl _ | (simp; done) | omega | (simp; omega)) | exact Ev.index rfl rfl (Rd.of_pick (by (repeat (first | exact Pick.head | apply Pick.tail)); fail_if_success (focus skip))) Imp.refl (by first | rfl | exact (Int.toNat_of_nonneg (by omega)).symm) (by first | omega | (show 0 < _; omega) | (simp; omega)) (by first | exact Nat.le_refl _ | (simp; done) | omega | (simp; omega)))) rfl rfl ?_
    refine GL.val (by exact (by first | exact Ev.load_el rfl (by assumption) (by first | exact Imp.refl | exact Imp.nil | ((repeat (first | exact Imp.refl | refine Imp.cons ?_)); fail_if_success (focus skip))) rfl rfl rfl (List.getElem?_eq_getElem (by first | omega | (simp; done) | (simp; omega))) | exact Ev.load_el rfl (Rd.of_pick (by (repeat (first | exact Pick.head | apply Pick.tail)); fail_if_success (focus skip))) Imp.refl rfl rfl rfl (List.getElem?_eq_getElem (by first | omega | (simp; done) | (simp; omega))))) rfl rfl ?_
    refine GL.call rfl rfl (placeIn_spec _ _ _ _ _ (by first | assumption | exact Rd.of_pick (by (repeat (first | exact Pick.head | apply Pick.tail)); fail_if_success (focus skip)) | exact Rd.imp (by assumption) (by first | exact Imp.refl | exact Imp.nil | ((repeat (first | exact Imp.refl | refine Imp.cons ?_)); fail_if_success (focus skip)))) (by first | omega | (simp; done) | (simp; omega)) _) ?_
    rintro _ _ ⟨k17, rfl, hk17, e17⟩
    rw [e17]; clear e17
    refine GL.val (by exact EvP.r (Ev.lss rfl rfl)) rfl rfl ?_
    refine GL.nil ?_
    refine GE.seq ?_
    first | refine GC.if_dec rfl (fun h2 => ?_) (fun h2 => ?_) | refine GC.if_ndec rfl (fun h2 => ?_) (fun h2 => ?_) | refine GC.if_not rfl (fun h2 => ?_) (fun h2 => ?_) | refine GC.if_bool rfl (fun h2 => ?_) (fun h2 => ?_)
    · -- TT
      refine GC.region ?_
      refine GL.val (by exact EvP.r (Ev.move rfl)) rfl rfl ?_
      refine GL.val (by exact EvP.r (Ev.move rfl)) rfl rfl ?_
      refine GL.val (by exact EvP.r (Ev.move rfl)) rfl rfl ?_
      refine GL.val (by exact (by first | exact Ev.index rfl rfl (by assumption) (by first | exact Imp.refl | exact Imp.nil | ((repeat (first | exact Imp.refl | refine Imp.cons ?_)); fail_if_success (focus skip))) (by first | rfl | exact (Int.toNat_of_nonneg (by omega)).symm) (by first | omega | (show 0 < _; omega) | (simp; omega)) (by first | exact Nat.le_refl _ | (simp; done) | omega | (simp; omega)) | exact Ev.index rfl rfl (Rd.of_pick (by (repeat (first | exact Pick.head | apply Pick.tail)); fail_if_success (focus skip))) Imp.refl (by first | rfl | exact (Int.toNat_of_nonneg (by omega)).symm) (by first | omega | (show 0 < _; omega) | (simp; omega)) (by first | exact Nat.le_refl _ | (simp; done) | omega | (simp; omega)))) rfl rfl ?_
      refine GL.val (by exact (by first | exact Ev.load_el rfl (by assumption) (by first | exact Imp.refl | exact Imp.nil | ((repeat (first | exact Imp.refl | refine Imp.cons ?_)); fail_if_success (focus skip))) rfl rfl rfl (List.getElem?_eq_getElem (by first | omega | (simp; done) | (simp; omega))) | exact Ev.load_el rfl (Rd.of_pick (by (repeat (first | exact Pick.head | apply Pick.tail)); fail_if_success (focus skip))) Imp.refl rfl rfl rfl (List.getElem?_eq_getElem (by first | omega | (simp; done) | (simp; omega))))) rfl rfl ?_
      refine GL.buildSlice rfl (by first | exact bsInt0 | exact bsInt1 _ | exact bsInt2 _ _ | exact bsInt3 _ _ _ | exact bsInt4 _ _ _ _ | exact bsInt5 _ _ _ _ _ | exact bsInt6 _ _ _ _ _ _ | exact bsInt7 _ _ _ _ _ _ _ | exact bsInt8 _ _ _ _ _ _ _ _ | exact bsInt9 _ _ _ _ _ _ _ _ _ | exact bsInt10 _ _ _ _ _ _ _ _ _ _ | exact bsPart0 | exact bsPart1 ⟨_, _, _, _, _⟩ | exact bsNode1 ⟨_, _, _, _⟩ | exact bsPtr3 _ _ _) rfl (by decide) rfl ?_; intro g24
      first | (refine GL.append rfl rfl (by (repeat (first | exact Pick.head | apply Pick.tail)); fail_if_success (focus skip)) (by assumption) (by first | exact Imp.refl | exact Imp.nil | ((repeat (first | exact Imp.refl | refine Imp.cons ?_)); fail_if_success (focus skip))) (by first | rfl | (simp; done) | (simp; omega)) (by first | rfl | (simp; done) | (simp; omega)) (by first | omega | (simp; omega)) (by first | omega | (simp; omega)) rfl ?_; intro A25 c25) | (refine GL.append rfl rfl (by (repeat (first | exact Pick.head | apply Pick.tail)); fail_if_success (focus skip)) (Rd.of_pick (by (repeat (first | exact Pick.head | apply Pick.tail)); fail_if_success (focus skip))) Imp.refl (by first | rfl | (simp; done) | (simp; omega)) (by first | rfl | (simp; done) | (simp; omega)) (by first | omega | (simp; omega)) (by first | omega | (simp; omega)) rfl ?_; intro A25 c25)
      refine GL.val (by exact EvP.r (Ev.assign rfl)) rfl rfl ?_
      refine GL.nil ?_
      refine GE.block ?_
      refine GE.seq ?_
      refine GC.region ?_
      refine GL.val (by exact EvP.r (Ev.move rfl)) rfl rfl ?_
      refine GL.val (by exact EvP.r (Ev.add rfl rfl (by omega))) rfl rfl ?_
      refine GL.val (by exact EvP.r (Ev.assign rfl)) rfl rfl ?_
      refine GL.nil ?_
      -- round of loop 1, path TT
      rw [show addR (addAll [] (xs.take i)) xs[i] = addAll [] (xs.take i) ++ [xs[i]] by simp only [addR]; rw [hk17.1 h2]; rfl] at hnx
      rw [← hnx]
      refine GE.round (i + 1, _, _) (by dsimp only; omega) (by dsimp only; omega) (by repeat (first | exact Keeps.nil | refine Keeps.cons rfl ?_)) (by first | exact Sub.refl | exact Sub.nil | (repeat (first | exact Sub.refl | exact Sub.nil | refine Sub.cons (by (repeat (first | exact Pick.head | apply Pick.tail)); fail_if_success (focus skip)) ?_ | refine Sub.drop ?_)))
    · -- TF
      refine GC.skip ?_
      refine GE.block ?_
      refine GE.seq ?_
      refine GC.region ?_
      refine GL.val (by exact EvP.r (Ev.move rfl)) rfl rfl ?_
      refine GL.val (by exact EvP.r (Ev.add rfl rfl (by omega))) rfl rfl ?_
      refine GL.val (by exact EvP.r (Ev.assign rfl)) rfl rfl ?_
      refine GL.nil ?_
      -- round of loop 1, path TF
      rw [show addR (addAll [] (xs.take i)) xs[i] = addAll [] (xs.take i) by (simp only [addR]; rw [if_pos]; cases hc : (addAll [] (xs.take i)).contains xs[i] with | true => rfl | false => exact absurd (hk17.2 hc) h2)] at hnx
      refine GE.round (i + 1, B, d) (by dsimp only; omega) (by dsimp only; omega) (by dsimp only; rw [hnx]; repeat (first | exact Keeps.nil | refine Keeps.cons rfl ?_)) (by dsimp only; rw [hnx]; exact (by first | exact Sub.refl | exact Sub.nil | (repeat (first | exact Sub.refl | exact Sub.nil | refine Sub.cons (by (repeat (first | exact Pick.head | apply Pick.tail)); fail_if_success (focus skip)) ?_ | refine Sub.drop ?_))))
  · -- F
    have hie : i = xs.length := by omega
    subst hie
    rw [List.take_length]
    refine GC.exit ?_
    refine GE.seq_exit ?_
    refine GE.loop_exit ?_
    refine GE.block_exit ?_
    refine GE.seq ?_
    refine GC.seq ?_
    refine GC.region ?_
    refine GL.val (by exact EvP.r (Ev.move rfl)) rfl rfl ?_
    refine GL.val (by exact EvP.r (Ev.assign rfl)) rfl rfl ?_
    refine GL.nil ?_
    refine GE.seq ?_
    refine GC.ret ?_
    -- returns, path F
    refine GE.ret_tmp (L' := row intE B d (addAll [] xs) :: L) (.inl rfl) rfl rfl (by first | exact Sub.refl | exact Sub.nil | (repeat (first | exact Sub.refl | exact Sub.nil | refine Sub.cons (by (repeat (first | exact Pick.head | apply Pick.tail)); fail_if_success (focus skip)) ?_ | refine Sub.drop ?_))) ?_
    exact ⟨B, d, rfl, rfl⟩
theorem srun_spec (w0 : World) (L : List Asn) (A : Option Addr) (c : Nat) (ps : List Part) (hR : Rd w0 L partE A c ps) (B : Option Addr) (d : Nat) (xs : List Int) (hX : Rd w0 L intE B d xs) (hf : FitV ps xs) :
    Tr Try.prog 64 #[.agg #[.slice A ps.length c], .slice B xs.length d] w0 L (fun v L' => ∃ B' d', v = .tuple #[.int .i64 (valL ps (valF xs)), .slice B' (readL ps (valF xs)).length d'] ∧ L' = row intE B' d' (readL ps (valF xs)) :: L) := by
  have hl1 := hf.1.1
  have hl2 := hf.1.2.1
  have hlen : (evL ps (valF xs) (ps.length - 1)).2.length ≤ 4096 := Nat.le_trans (evL_len hf.1.2.2.1 _ (by omega)) (by have := Nat.pow_le_pow_right (show 0 < 2 by decide) (show ps.length - 1 ≤ 12 by omega); omega)
  refine Tr.enter (args := [.agg #[.slice A ps.length c], .slice B xs.length d]) Try.func64 Try.ntmps64 rfl rfl ?_
  refine GC.seq ?_
  refine GC.region ?_
  refine GL.box_agg rfl rfl ?_; intro g2
  refine GL.val (by exact EvP.r (Ev.assign rfl)) rfl rfl ?_
  refine GL.val (by exact EvP.r (Ev.assign rfl)) rfl rfl ?_
  refine GL.nil ?_
  refine GE.seq ?_
  refine GC.seq ?_
  refine GC.region ?_
  refine GL.val (by exact (by first | exact Ev.load_blk_all rfl rfl (BlkRd.of_pick (by (repeat (first | exact Pick.head | apply Pick.tail)); fail_if_success (focus skip))) Imp.refl (by rfl) | exact Ev.load_blk_all rfl rfl (by assumption) (by first | exact Imp.refl | exact Imp.nil | ((repeat (first | exact Imp.refl | refine Imp.cons ?_)); fail_if_success (focus skip))) (by rfl))) rfl rfl ?_
  refine GL.val (by exact EvP.r (Ev.move rfl)) rfl rfl ?_
  refine GL.val (by exact EvP.r (Ev.fieldAddr rfl)) rfl rfl ?_
  refine GL.val (by exact (by first | exact Ev.load_blk rfl rfl (BlkRd.of_pick (by (repeat (first | exact Pick.head | apply Pick.tail)); fail_if_success (focus skip))) Imp.refl (by rfl) | exact Ev.load_blk rfl rfl (by assumption) (by first | exact Imp.refl | exact Imp.nil | ((repeat (first | exact Imp.refl | refine Imp.cons ?_)); fail_if_success (focus skip))) (by rfl))) rfl rfl ?_
  refine GL.val (by exact EvP.r (Ev.len rfl)) rfl rfl ?_
  refine GL.val (by exact EvP.r (Ev.sub rfl rfl (by omega))) rfl rfl ?_
  refine GL.call rfl rfl (reckoned_spec w0 L A c ps hR B d xs hX hf (ps.length - 1) (by omega) _ (by first | exact Imp.refl | exact Imp.nil | ((repeat (first | exact Imp.refl | refine Imp.cons ?_)); fail_if_success (focus skip))) _ (by omega)) ?_
  rintro _ _ ⟨B1, d1, rfl, rfl⟩
  refine GL.val (by exact EvP.r (Ev.move rfl)) rfl rfl ?_
  refine GL.val (by exact EvP.r (Ev.extract rfl rfl)) rfl rfl ?_
  refine GL.val (by exact EvP.r (Ev.extract rfl rfl)) rfl rfl ?_
  refine GL.val (by exact EvP.r (Ev.assign rfl)) rfl rfl ?_
  refine GL.val (by exact EvP.r (Ev.assign rfl)) rfl rfl ?_
  refine GL.nil ?_
  refine GE.seq ?_
  refine GC.seq ?_
  refine GC.region ?_
  refine GL.val (by exact EvP.r (Ev.move rfl)) rfl rfl ?_
  refine GL.val (by exact EvP.r (Ev.move rfl)) rfl rfl ?_
  refine GL.call rfl rfl (firstOnly_spec w0 _ B1 d1 _ (by first | assumption | exact Rd.of_pick (by (repeat (first | exact Pick.head | apply Pick.tail)); fail_if_success (focus skip)) | exact Rd.imp (by assumption) (by first | exact Imp.refl | exact Imp.nil | ((repeat (first | exact Imp.refl | refine Imp.cons ?_)); fail_if_success (focus skip)))) (by omega)) ?_
  rintro _ _ ⟨B2, d2, rfl, rfl⟩
  refine GL.val (by exact EvP.r (Ev.assign rfl)) rfl rfl ?_
  refine GL.val (by exact EvP.r (Ev.assign rfl)) rfl rfl ?_
  refine GL.nil ?_
  refine GE.seq ?_
  refine GC.ret ?_
  -- returns, path 
  refine GE.ret_tmp2 (L' := row intE B2 d2 (readL ps (valF xs)) :: L) (.inl rfl) rfl rfl rfl (by first | exact Sub.refl | exact Sub.nil | (repeat (first | exact Sub.refl | exact Sub.nil | refine Sub.cons (by (repeat (first | exact Pick.head | apply Pick.tail)); fail_if_success (focus skip)) ?_ | refine Sub.drop ?_))) ?_
  exact ⟨B2, d2, rfl, rfl⟩
theorem validValues_spec (w0 : World) (L : List Asn) (A : Option Addr) (c : Nat) (ps : List Part) (hR : Rd w0 L partE A c ps) (B : Option Addr) (d : Nat) (xs : List Int) (hX : Rd w0 L intE B d xs) (hp : ps.length ≤ 1100000) (hl : xs.length ≤ 1100000) :
    Tr Try.prog 63 #[.agg #[.slice A ps.length c], .slice B xs.length d] w0 L (fun v L' => v = .bool (fitB ps xs) ∧ L' = L) := by
  have hml := mayL_length ps
  refine Tr.enter (args := [.agg #[.slice A ps.length c], .slice B xs.length d]) Try.func63 Try.ntmps63 rfl rfl ?_
  refine GC.seq ?_
  refine GC.region ?_
  refine GL.box_agg rfl rfl ?_; intro g2
  refine GL.val (by exact EvP.r (Ev.assign rfl)) rfl rfl ?_
  refine GL.nil ?_
  refine GE.seq ?_
  refine GC.seq ?_
  refine GC.region ?_
  refine GL.val (by exact (by first | exact Ev.load_blk_all rfl rfl (BlkRd.of_pick (by (repeat (first | exact Pick.head | apply Pick.tail)); fail_if_success (focus skip))) Imp.refl (by rfl) | exact Ev.load_blk_all rfl rfl (by assumption) (by first | exact Imp.refl | exact Imp.nil | ((repeat (first | exact Imp.refl | refine Imp.cons ?_)); fail_if_success (focus skip))) (by rfl))) rfl rfl ?_
  refine GL.call rfl rfl (smayRead_spec _ _ _ _ _ (by first | assumption | exact Rd.of_pick (by (repeat (first | exact Pick.head | apply Pick.tail)); fail_if_success (focus skip)) | exact Rd.imp (by assumption) (by first | exact Imp.refl | exact Imp.nil | ((repeat (first | exact Imp.refl | refine Imp.cons ?_)); fail_if_success (focus skip)))) (by first | omega | (simp; done) | (simp; omega))) ?_
  rintro _ _ ⟨B7, d7, rfl, rfl⟩
  refine GL.val (by exact EvP.r (Ev.assign rfl)) rfl rfl ?_
  refine GL.nil ?_
  refine GE.seq ?_
  refine GC.seq ?_
  refine GC.region ?_
  refine GL.val (by exact EvP.r (Ev.move rfl)) rfl rfl ?_
  refine GL.callF rfl rfl (allIn_spec _ _ _ _ _ (by first | assumption | exact Rd.of_pick (by (repeat (first | exact Pick.head | apply Pick.tail)); fail_if_success (focus skip)) | exact Rd.imp (by assumption) (by first | exact Imp.refl | exact Imp.nil | ((repeat (first | exact Imp.refl | refine Imp.cons ?_)); fail_if_success (focus skip)))) _ _ (by first | omega | (simp; done) | (simp; omega))) ?_
  refine GL.val (by exact EvP.r (Ev.move rfl)) rfl rfl ?_
  first | refine GL.gdec rfl rfl (fun h1 => ?_) (fun h1 => ?_) | refine GL.gndec rfl rfl (fun h1 => ?_) (fun h1 => ?_) | refine GL.gnot rfl rfl (fun h1 => ?_) (fun h1 => ?_) | refine GL.gbool rfl rfl (fun h1 => ?_) (fun h1 => ?_)
  · -- t
    refine GL.want rfl rfl ?_
    refine GL.val (by exact EvP.r (Ev.move rfl)) rfl rfl ?_
    refine GL.want rfl rfl ?_
    refine GL.val (by exact EvP.r (Ev.len rfl)) rfl rfl ?_
    refine GL.want rfl rfl ?_
    refine GL.val (by exact EvP.r (Ev.leq rfl rfl)) rfl rfl ?_
    refine GL.val (by exact EvP.r (Ev.pick_true rfl rfl)) rfl rfl ?_
    refine GL.val (by exact EvP.r (Ev.move rfl)) rfl rfl ?_
    first | refine GL.gdec rfl rfl (fun h2 => ?_) (fun h2 => ?_) | refine GL.gndec rfl rfl (fun h2 => ?_) (fun h2 => ?_) | refine GL.gnot rfl rfl (fun h2 => ?_) (fun h2 => ?_) | refine GL.gbool rfl rfl (fun h2 => ?_) (fun h2 => ?_)
    · -- tt
      refine GL.want rfl rfl ?_
      refine GL.val (by exact EvP.r (Ev.move rfl)) rfl rfl ?_
      refine GL.want rfl rfl ?_
      refine GL.val (by exact EvP.r (Ev.len rfl)) rfl rfl ?_
      refine GL.want rfl rfl ?_
      refine GL.val (by exact EvP.r (Ev.eql rfl rfl)) rfl rfl ?_
      refine GL.want rfl rfl ?_
      refine GL.val (by exact EvP.r (Ev.move rfl)) rfl rfl ?_
      first | refine GL.gdec rfl rfl (fun h3 => ?_) (fun h3 => ?_) | refine GL.gndec rfl rfl (fun h3 => ?_) (fun h3 => ?_) | refine GL.gnot rfl rfl (fun h3 => ?_) (fun h3 => ?_) | refine GL.gbool rfl rfl (fun h3 => ?_) (fun h3 => ?_)
      · -- ttt
        refine GL.unwant rfl rfl rfl rfl ?_
        refine GL.unwant rfl rfl rfl rfl ?_
        refine GL.unwant rfl rfl rfl rfl ?_
        refine GL.unwant rfl rfl rfl rfl ?_
        refine GL.unwant rfl rfl rfl rfl ?_
        refine GL.unwant rfl rfl rfl rfl ?_
        refine GL.unwant rfl rfl rfl rfl ?_
        refine GL.unwant rfl rfl rfl rfl ?_
        refine GL.unwant rfl rfl rfl rfl ?_
        refine GL.want rfl rfl ?_
        refine GL.val (by exact EvP.r (Ev.pick_true rfl rfl)) rfl rfl ?_
        refine GL.val (by exact EvP.r (Ev.pick_true rfl rfl)) rfl rfl ?_
        refine GL.val (by exact EvP.r (Ev.assign rfl)) rfl rfl ?_
        refine GL.nil ?_
        refine GE.seq ?_
        refine GC.ret ?_
        -- returns, path ttt
        refine GE.ret_tmp (L' := L) (.inl rfl) rfl rfl (by first | exact Sub.refl | exact Sub.nil | (repeat (first | exact Sub.refl | exact Sub.nil | refine Sub.cons (by (repeat (first | exact Pick.head | apply Pick.tail)); fail_if_success (focus skip)) ?_ | refine Sub.drop ?_))) ?_
        refine ⟨?_, rfl⟩
        first
          | (simp only [fitB, *]; simp; done)
          | (rw [at0_eq]; simp only [fitB, *]; simp; done)
      · -- ttf
        refine GL.want rfl rfl ?_
        refine GL.val (by exact EvP.r (Ev.move rfl)) rfl rfl ?_
        refine GL.want rfl rfl ?_
        refine GL.val (by exact EvP.r (Ev.move rfl)) rfl rfl ?_
        refine GL.want rfl rfl ?_
        refine GL.val (by exact EvP.r (Ev.len rfl)) rfl rfl ?_
        refine GL.want rfl rfl ?_
        refine GL.val (by exact EvP.r (Ev.sub rfl rfl (by omega))) rfl rfl ?_
        refine GL.want rfl rfl ?_
        refine GL.val (by exact (by first | exact Ev.index rfl rfl (by assumption) (by first | exact Imp.refl | exact Imp.nil | ((repeat (first | exact Imp.refl | refine Imp.cons ?_)); fail_if_success (focus skip))) (by first | rfl | exact (Int.toNat_of_nonneg (by omega)).symm) (by first | omega | (show 0 < _; omega) | (simp; omega)) (by first | exact Nat.le_refl _ | (simp; done) | omega | (simp; omega)) | exact Ev.index rfl rfl (Rd.of_pick (by (repeat (first | exact Pick.head | apply Pick.tail)); fail_if_success (focus skip))) Imp.refl (by first | rfl | exact (Int.toNat_of_nonneg (by omega)).symm) (by first | omega | (show 0 < _; omega) | (simp; omega)) (by first | exact Nat.le_refl _ | (simp; done) | omega | (simp; omega)))) rfl rfl ?_
        refine GL.want rfl rfl ?_
        refine GL.val (by exact (by first | exact Ev.load_el rfl (by assumption) (by first | exact Imp.refl | exact Imp.nil | ((repeat (first | exact Imp.refl | refine Imp.cons ?_)); fail_if_success (focus skip))) rfl rfl rfl (List.getElem?_eq_getElem (by first | omega | (simp; done) | (simp; omega))) | exact Ev.load_el rfl (Rd.of_pick (by (repeat (first | exact Pick.head | apply Pick.tail)); fail_if_success (focus skip))) Imp.refl rfl rfl rfl (List.getElem?_eq_getElem (by first | omega | (simp; done) | (simp; omega))))) rfl rfl ?_
        refine GL.want rfl rfl ?_
        refine GL.val (by exact EvP.r (Ev.move rfl)) rfl rfl ?_
        refine GL.want rfl rfl ?_
        refine GL.val (by exact EvP.r (Ev.len rfl)) rfl rfl ?_
        refine GL.want rfl rfl ?_
        refine GL.val (by exact EvP.r (Ev.lss rfl rfl)) rfl rfl ?_
        refine GL.want rfl rfl ?_
        refine GL.val (by exact EvP.r (Ev.pick_false rfl rfl)) rfl rfl ?_
        refine GL.val (by exact EvP.r (Ev.pick_true rfl rfl)) rfl rfl ?_
        refine GL.val (by exact EvP.r (Ev.assign rfl)) rfl rfl ?_
        refine GL.nil ?_
        refine GE.seq ?_
        refine GC.ret ?_
        -- returns, path ttf
        refine GE.ret_tmp (L' := L) (.inl rfl) rfl rfl (by first | exact Sub.refl | exact Sub.nil | (repeat (first | exact Sub.refl | exact Sub.nil | refine Sub.cons (by (repeat (first | exact Pick.head | apply Pick.tail)); fail_if_success (focus skip)) ?_ | refine Sub.drop ?_))) ?_
        refine ⟨?_, rfl⟩
        first
          | (simp only [fitB, *]; simp; done)
          | (rw [at0_eq]; simp only [fitB, *]; simp; done)
    · -- tf
      refine GL.unwant rfl rfl rfl rfl ?_
      refine GL.unwant rfl rfl rfl rfl ?_
      refine GL.unwant rfl rfl rfl rfl ?_
      refine GL.unwant rfl rfl rfl rfl ?_
      refine GL.unwantU rfl rfl rfl ?_
      refine GL.unwantU rfl rfl rfl ?_
      refine GL.unwantU rfl rfl rfl ?_
      refine GL.unwantU rfl rfl rfl ?_
      refine GL.unwantU rfl rfl rfl ?_
      refine GL.unwantU rfl rfl rfl ?_
      refine GL.unwantU rfl rfl rfl ?_
      refine GL.unwantU rfl rfl rfl ?_
      refine GL.unwantU rfl rfl rfl ?_
      refine GL.unwant rfl rfl rfl rfl ?_
      refine GL.val (by exact EvP.r (Ev.pick_false rfl rfl)) rfl rfl ?_
      refine GL.val (by exact EvP.r (Ev.assign rfl)) rfl rfl ?_
      refine GL.nil ?_
      refine GE.seq ?_
      refine GC.ret ?_
      -- returns, path tf
      refine GE.ret_tmp (L' := L) (.inl rfl) rfl rfl (by first | exact Sub.refl | exact Sub.nil | (repeat (first | exact Sub.refl | exact Sub.nil | refine Sub.cons (by (repeat (first | exact Pick.head | apply Pick.tail)); fail_if_success (focus skip)) ?_ | refine Sub.drop ?_))) ?_
      refine ⟨?_, rfl⟩
      first
        | (simp only [fitB, *]; simp; done)
        | (rw [at0_eq]; simp only [fitB, *]; simp; done)
  · -- f
    refine GL.unwant rfl rfl rfl rfl ?_
    refine GL.unwant rfl rfl rfl rfl ?_
    refine GL.unwant rfl rfl rfl rfl ?_
    refine GL.val (by exact EvP.r (Ev.pick_false rfl rfl)) rfl rfl ?_
    refine GL.val (by exact EvP.r (Ev.move rfl)) rfl rfl ?_
    refine GL.unwant rfl rfl rfl rfl ?_
    refine GL.unwant rfl rfl rfl rfl ?_
    refine GL.unwant rfl rfl rfl rfl ?_
    refine GL.unwant rfl rfl rfl rfl ?_
    refine GL.unwantU rfl rfl rfl ?_
    refine GL.unwantU rfl rfl rfl ?_
    refine GL.unwantU rfl rfl rfl ?_
    refine GL.unwantU rfl rfl rfl ?_
    refine GL.unwantU rfl rfl rfl ?_
    refine GL.unwantU rfl rfl rfl ?_
    refine GL.unwantU rfl rfl rfl ?_
    refine GL.unwantU rfl rfl rfl ?_
    refine GL.unwantU rfl rfl rfl ?_
    refine GL.unwant rfl rfl rfl rfl ?_
    refine GL.val (by exact EvP.r (Ev.pick_false rfl rfl)) rfl rfl ?_
    refine GL.val (by exact EvP.r (Ev.assign rfl)) rfl rfl ?_
    refine GL.nil ?_
    refine GE.seq ?_
    refine GC.ret ?_
    -- returns, path f
    refine GE.ret_tmp (L' := L) (.inl rfl) rfl rfl (by first | exact Sub.refl | exact Sub.nil | (repeat (first | exact Sub.refl | exact Sub.nil | refine Sub.cons (by (repeat (first | exact Pick.head | apply Pick.tail)); fail_if_success (focus skip)) ?_ | refine Sub.drop ?_))) ?_
    refine ⟨?_, rfl⟩
    first
      | (simp only [fitB, *]; simp; done)
      | (rw [at0_eq]; simp only [fitB, *]; simp; done)
theorem sValueOf_spec (w0 : World) (L : List Asn) (A : Option Addr) (c : Nat) (ps : List Part) (hR : Rd w0 L partE A c ps) (B : Option Addr) (d : Nat) (xs : List Int) (hX : Rd w0 L intE B d xs) (hp : ps.length ≤ 1100000) (hl : xs.length ≤ 1100000) :
    Tr Try.prog 23 #[.agg #[.slice A ps.length c], .slice B xs.length d] w0 L (fun v L' => v = .tuple #[.int .i64 (if fitV ps xs then valL ps (valF xs) else 0), .bool (fitV ps xs)] ∧ L' = L) := by
  refine Tr.enter (args := [.agg #[.slice A ps.length c], .slice B xs.length d]) Try.func23 Try.ntmps23 rfl rfl ?_
  refine GC.seq ?_
  refine GC.region ?_
  refine GL.box_agg rfl rfl ?_; intro g2
  refine GL.val (by exact EvP.r (Ev.assign rfl)) rfl rfl ?_
  refine GL.val (by exact EvP.r (Ev.assign rfl)) rfl rfl ?_
  refine GL.nil ?_
  refine GE.seq ?_
  refine GC.seq ?_
  refine GC.seq ?_
  refine GC.region ?_
  refine GL.val (by exact (by first | exact Ev.load_blk_all rfl rfl (BlkRd.of_pick (by (repeat (first | exact Pick.head | apply Pick.tail)); fail_if_success (focus skip))) Imp.refl (by rfl) | exact Ev.load_blk_all rfl rfl (by assumption) (by first | exact Imp.refl | exact Imp.nil | ((repeat (first | exact Imp.refl | refine Imp.cons ?_)); fail_if_success (focus skip))) (by rfl))) rfl rfl ?_
  refine GL.callF rfl rfl (validFormula_spec _ _ _ _ _ (by first | assumption | exact Rd.of_pick (by (repeat (first | exact Pick.head | apply Pick.tail)); fail_if_success (focus skip)) | exact Rd.imp (by assumption) (by first | exact Imp.refl | exact Imp.nil | ((repeat (first | exact Imp.refl | refine Imp.cons ?_)); fail_if_success (focus skip)))) (by first | omega | (simp; done) | (simp; omega))) ?_
  refine GL.val (by exact EvP.r (Ev.not rfl)) rfl rfl ?_
  refine GL.val (by exact EvP.r (Ev.move rfl)) rfl rfl ?_
  first | refine GL.gdec rfl rfl (fun h1 => ?_) (fun h1 => ?_) | refine GL.gndec rfl rfl (fun h1 => ?_) (fun h1 => ?_) | refine GL.gnot rfl rfl (fun h1 => ?_) (fun h1 => ?_) | refine GL.gbool rfl rfl (fun h1 => ?_) (fun h1 => ?_)
  · -- t
    refine GL.unwant rfl rfl rfl rfl ?_
    refine GL.unwant rfl rfl rfl rfl ?_
    refine GL.unwant rfl rfl rfl rfl ?_
    refine GL.unwant rfl rfl rfl rfl ?_
    refine GL.val (by exact EvP.r (Ev.pick_true rfl rfl)) rfl rfl ?_
    refine GL.nil ?_
    refine GE.seq ?_
    refine GC.cond_true rfl ?_
    refine GC.seq ?_
    refine GC.region ?_
    refine GL.val (by exact EvP.r (Ev.assign rfl)) rfl rfl ?_
    refine GL.val (by exact EvP.r (Ev.assign rfl)) rfl rfl ?_
    refine GL.nil ?_
    refine GE.seq ?_
    refine GC.ret ?_
    refine GE.seq_ret ?_
    -- returns, path t
    refine GE.ret_tmp2 (L' := L) (.inl rfl) rfl rfl rfl (by first | exact Sub.refl | exact Sub.nil | (repeat (first | exact Sub.refl | exact Sub.nil | refine Sub.cons (by (repeat (first | exact Pick.head | apply Pick.tail)); fail_if_success (focus skip)) ?_ | refine Sub.drop ?_))) ?_
    exact ⟨by rw [fitV_not.2 (fun h => validF_not.1 h1 h.1)]; rfl, rfl⟩
  · -- f
    refine GL.want rfl rfl ?_
    refine GL.val (by exact (by first | exact Ev.load_blk_all rfl rfl (BlkRd.of_pick (by (repeat (first | exact Pick.head | apply Pick.tail)); fail_if_success (focus skip))) Imp.refl (by rfl) | exact Ev.load_blk_all rfl rfl (by assumption) (by first | exact Imp.refl | exact Imp.nil | ((repeat (first | exact Imp.refl | refine Imp.cons ?_)); fail_if_success (focus skip))) (by rfl))) rfl rfl ?_
    refine GL.want rfl rfl ?_
    refine GL.val (by exact EvP.r (Ev.move rfl)) rfl rfl ?_
    refine GL.want rfl rfl ?_
    refine GL.callF rfl rfl ((by have := validValues_spec w0 (blk g2 25 [.slice A ps.length c] :: L) A c ps (hR.imp (by first | exact Imp.refl | exact Imp.nil | ((repeat (first | exact Imp.refl | refine Imp.cons ?_)); fail_if_success (focus skip)))) B d xs (hX.imp (by first | exact Imp.refl | exact Imp.nil | ((repeat (first | exact Imp.refl | refine Imp.cons ?_)); fail_if_success (focus skip)))) hp hl; rw [fitB_eq (validF_iff.1 h1)] at this; exact this)) ?_
    refine GL.want rfl rfl ?_
    refine GL.val (by exact EvP.r (Ev.not rfl)) rfl rfl ?_
    refine GL.val (by exact EvP.r (Ev.pick_false rfl rfl)) rfl rfl ?_
    refine GL.nil ?_
    refine GE.seq ?_
    first | refine GC.if_dec rfl (fun h2 => ?_) (fun h2 => ?_) | refine GC.if_ndec rfl (fun h2 => ?_) (fun h2 => ?_) | refine GC.if_not rfl (fun h2 => ?_) (fun h2 => ?_) | refine GC.if_bool rfl (fun h2 => ?_) (fun h2 => ?_)
    · -- fT
      refine GC.seq ?_
      refine GC.region ?_
      refine GL.val (by exact EvP.r (Ev.assign rfl)) rfl rfl ?_
      refine GL.val (by exact EvP.r (Ev.assign rfl)) rfl rfl ?_
      refine GL.nil ?_
      refine GE.seq ?_
      refine GC.ret ?_
      refine GE.seq_ret ?_
      -- returns, path fT
      refine GE.ret_tmp2 (L' := L) (.inl rfl) rfl rfl rfl (by first | exact Sub.refl | exact Sub.nil | (repeat (first | exact Sub.refl | exact Sub.nil | refine Sub.cons (by (repeat (first | exact Pick.head | apply Pick.tail)); fail_if_success (focus skip)) ?_ | refine Sub.drop ?_))) ?_
      exact ⟨by rw [h2]; rfl, rfl⟩
    · -- fF
      have hfit := fitV_iff.1 h2
      refine GC.skip ?_
      refine GE.seq ?_
      refine GC.seq ?_
      refine GC.region ?_
      refine GL.val (by exact (by first | exact Ev.load_blk_all rfl rfl (BlkRd.of_pick (by (repeat (first | exact Pick.head | apply Pick.tail)); fail_if_success (focus skip))) Imp.refl (by rfl) | exact Ev.load_blk_all rfl rfl (by assumption) (by first | exact Imp.refl | exact Imp.nil | ((repeat (first | exact Imp.refl | refine Imp.cons ?_)); fail_if_success (focus skip))) (by rfl))) rfl rfl ?_
      refine GL.val (by exact EvP.r (Ev.move rfl)) rfl rfl ?_
      refine GL.call rfl rfl (srun_spec _ _ _ _ _ (by first | assumption | exact Rd.of_pick (by (repeat (first | exact Pick.head | apply Pick.tail)); fail_if_success (focus skip)) | exact Rd.imp (by assumption) (by first | exact Imp.refl | exact Imp.nil | ((repeat (first | exact Imp.refl | refine Imp.cons ?_)); fail_if_success (focus skip)))) _ _ _ (by first | assumption | exact Rd.of_pick (by (repeat (first | exact Pick.head | apply Pick.tail)); fail_if_success (focus skip)) | exact Rd.imp (by assumption) (by first | exact Imp.refl | exact Imp.nil | ((repeat (first | exact Imp.refl | refine Imp.cons ?_)); fail_if_success (focus skip)))) (by assumption)) ?_
      rintro _ _ ⟨B20, d20, rfl, rfl⟩
      refine GL.val (by exact EvP.r (Ev.move rfl)) rfl rfl ?_
      refine GL.val (by exact EvP.r (Ev.extract rfl rfl)) rfl rfl ?_
      refine GL.val (by exact EvP.r (Ev.extract rfl rfl)) rfl rfl ?_
      refine GL.val (by exact EvP.r (Ev.assign rfl)) rfl rfl ?_
      refine GL.val (by exact EvP.r (Ev.assign rfl)) rfl rfl ?_
      refine GL.nil ?_
      refine GE.seq ?_
      refine GC.seq ?_
      refine GC.region ?_
      refine GL.val (by exact EvP.r (Ev.move rfl)) rfl rfl ?_
      refine GL.val (by exact EvP.r (Ev.assign rfl)) rfl rfl ?_
      refine GL.val (by exact EvP.r (Ev.assign rfl)) rfl rfl ?_
      refine GL.nil ?_
      refine GE.seq ?_
      refine GC.ret ?_
      -- returns, path fF
      refine GE.ret_tmp2 (L' := L) (.inl rfl) rfl rfl rfl (by first | exact Sub.refl | exact Sub.nil | (repeat (first | exact Sub.refl | exact Sub.nil | refine Sub.cons (by (repeat (first | exact Pick.head | apply Pick.tail)); fail_if_success (focus skip)) ?_ | refine Sub.drop ?_))) ?_
      exact ⟨by rw [h2]; rfl, rfl⟩
theorem sReadsOf_spec (w0 : World) (L : List Asn) (A : Option Addr) (c : Nat) (ps : List Part) (hR : Rd w0 L partE A c ps) (B : Option Addr) (d : Nat) (xs : List Int) (hX : Rd w0 L intE B d xs) (hp : ps.length ≤ 1100000) (hl : xs.length ≤ 1100000) :
    Tr Try.prog 34 #[.agg #[.slice A ps.length c], .slice B xs.length d] w0 L (fun v L' => ∃ B' d', v = .slice B' (rdsL ps xs).length d' ∧ L' = row intE B' d' (rdsL ps xs) :: L) := by
  refine Tr.enter (args := [.agg #[.slice A ps.length c], .slice B xs.length d]) Try.func34 Try.ntmps34 rfl rfl ?_
  refine GC.seq ?_
  refine GC.region ?_
  refine GL.box_agg rfl rfl ?_; intro g2
  refine GL.val (by exact EvP.r (Ev.assign rfl)) rfl rfl ?_
  refine GL.nil ?_
  refine GE.seq ?_
  refine GC.seq ?_
  refine GC.seq ?_
  refine GC.region ?_
  refine GL.val (by exact (by first | exact Ev.load_blk_all rfl rfl (BlkRd.of_pick (by (repeat (first | exact Pick.head | apply Pick.tail)); fail_if_success (focus skip))) Imp.refl (by rfl) | exact Ev.load_blk_all rfl rfl (by assumption) (by first | exact Imp.refl | exact Imp.nil | ((repeat (first | exact Imp.refl | refine Imp.cons ?_)); fail_if_success (focus skip))) (by rfl))) rfl rfl ?_
  refine GL.callF rfl rfl (validFormula_spec _ _ _ _ _ (by first | assumption | exact Rd.of_pick (by (repeat (first | exact Pick.head | apply Pick.tail)); fail_if_success (focus skip)) | exact Rd.imp (by assumption) (by first | exact Imp.refl | exact Imp.nil | ((repeat (first | exact Imp.refl | refine Imp.cons ?_)); fail_if_success (focus skip)))) (by first | omega | (simp; done) | (simp; omega))) ?_
  refine GL.val (by exact EvP.r (Ev.not rfl)) rfl rfl ?_
  refine GL.val (by exact EvP.r (Ev.move rfl)) rfl rfl ?_
  first | refine GL.gdec rfl rfl (fun h1 => ?_) (fun h1 => ?_) | refine GL.gndec rfl rfl (fun h1 => ?_) (fun h1 => ?_) | refine GL.gnot rfl rfl (fun h1 => ?_) (fun h1 => ?_) | refine GL.gbool rfl rfl (fun h1 => ?_) (fun h1 => ?_)
  · -- t
    refine GL.unwant rfl rfl rfl rfl ?_
    refine GL.unwant rfl rfl rfl rfl ?_
    refine GL.unwant rfl rfl rfl rfl ?_
    refine GL.unwant rfl rfl rfl rfl ?_
    refine GL.val (by exact EvP.r (Ev.pick_true rfl rfl)) rfl rfl ?_
    refine GL.nil ?_
    refine GE.seq ?_
    refine GC.cond_true rfl ?_
    refine GC.seq ?_
    refine GC.region ?_
    refine GL.val (by exact EvP.r (Ev.assign rfl)) rfl rfl ?_
    refine GL.nil ?_
    refine GE.seq ?_
    refine GC.ret ?_
    refine GE.seq_ret ?_
    -- returns, path t
    refine GE.state (fun _ hs => hs.empty intE none) ?_
    refine GE.ret_tmp (L' := row intE none 0 [] :: L) (.inl rfl) rfl rfl (by first | exact Sub.refl | exact Sub.nil | (repeat (first | exact Sub.refl | exact Sub.nil | refine Sub.cons (by (repeat (first | exact Pick.head | apply Pick.tail)); fail_if_success (focus skip)) ?_ | refine Sub.drop ?_))) ?_
    rw [show rdsL ps xs = [] by rw [rdsL, if_neg]; rw [fitV_not.2 (fun h => validF_not.1 h1 h.1)]; simp]
    exact ⟨none, 0, rfl, rfl⟩
  · -- f
    refine GL.want rfl rfl ?_
    refine GL.val (by exact (by first | exact Ev.load_blk_all rfl rfl (BlkRd.of_pick (by (repeat (first | exact Pick.head | apply Pick.tail)); fail_if_success (focus skip))) Imp.refl (by rfl) | exact Ev.load_blk_all rfl rfl (by assumption) (by first | exact Imp.refl | exact Imp.nil | ((repeat (first | exact Imp.refl | refine Imp.cons ?_)); fail_if_success (focus skip))) (by rfl))) rfl rfl ?_
    refine GL.want rfl rfl ?_
    refine GL.val (by exact EvP.r (Ev.move rfl)) rfl rfl ?_
    refine GL.want rfl rfl ?_
    refine GL.callF rfl rfl ((by have := validValues_spec w0 (blk g2 25 [.slice A ps.length c] :: L) A c ps (hR.imp (by first | exact Imp.refl | exact Imp.nil | ((repeat (first | exact Imp.refl | refine Imp.cons ?_)); fail_if_success (focus skip)))) B d xs (hX.imp (by first | exact Imp.refl | exact Imp.nil | ((repeat (first | exact Imp.refl | refine Imp.cons ?_)); fail_if_success (focus skip)))) hp hl; rw [fitB_eq (validF_iff.1 h1)] at this; exact this)) ?_
    refine GL.want rfl rfl ?_
    refine GL.val (by exact EvP.r (Ev.not rfl)) rfl rfl ?_
    refine GL.val (by exact EvP.r (Ev.pick_false rfl rfl)) rfl rfl ?_
    refine GL.nil ?_
    refine GE.seq ?_
    first | refine GC.if_dec rfl (fun h2 => ?_) (fun h2 => ?_) | refine GC.if_ndec rfl (fun h2 => ?_) (fun h2 => ?_) | refine GC.if_not rfl (fun h2 => ?_) (fun h2 => ?_) | refine GC.if_bool rfl (fun h2 => ?_) (fun h2 => ?_)
    · -- fT
      refine GC.seq ?_
      refine GC.region ?_
      refine GL.val (by exact EvP.r (Ev.assign rfl)) rfl rfl ?_
      refine GL.nil ?_
      refine GE.seq ?_
      refine GC.ret ?_
      refine GE.seq_ret ?_
      -- returns, path fT
      refine GE.state (fun _ hs => hs.empty intE none) ?_
      refine GE.ret_tmp (L' := row intE none 0 [] :: L) (.inl rfl) rfl rfl (by first | exact Sub.refl | exact Sub.nil | (repeat (first | exact Sub.refl | exact Sub.nil | refine Sub.cons (by (repeat (first | exact Pick.head | apply Pick.tail)); fail_if_success (focus skip)) ?_ | refine Sub.drop ?_))) ?_
      rw [show rdsL ps xs = [] by rw [rdsL, if_neg]; rw [h2]; simp]
      exact ⟨none, 0, rfl, rfl⟩
    · -- fF
      have hfit := fitV_iff.1 h2
      refine GC.skip ?_
      refine GE.seq ?_
      refine GC.seq ?_
      refine GC.region ?_
      refine GL.val (by exact (by first | exact Ev.load_blk_all rfl rfl (BlkRd.of_pick (by (repeat (first | exact Pick.head | apply Pick.tail)); fail_if_success (focus skip))) Imp.refl (by rfl) | exact Ev.load_blk_all rfl rfl (by assumption) (by first | exact Imp.refl | exact Imp.nil | ((repeat (first | exact Imp.refl | refine Imp.cons ?_)); fail_if_success (focus skip))) (by rfl))) rfl rfl ?_
      refine GL.val (by exact EvP.r (Ev.move rfl)) rfl rfl ?_
      refine GL.call rfl rfl (srun_spec _ _ _ _ _ (by first | assumption | exact Rd.of_pick (by (repeat (first | exact Pick.head | apply Pick.tail)); fail_if_success (focus skip)) | exact Rd.imp (by assumption) (by first | exact Imp.refl | exact Imp.nil | ((repeat (first | exact Imp.refl | refine Imp.cons ?_)); fail_if_success (focus skip)))) _ _ _ (by first | assumption | exact Rd.of_pick (by (repeat (first | exact Pick.head | apply Pick.tail)); fail_if_success (focus skip)) | exact Rd.imp (by assumption) (by first | exact Imp.refl | exact Imp.nil | ((repeat (first | exact Imp.refl | refine Imp.cons ?_)); fail_if_success (focus skip)))) (by assumption)) ?_
      rintro _ _ ⟨B19, d19, rfl, rfl⟩
      refine GL.val (by exact EvP.r (Ev.move rfl)) rfl rfl ?_
      refine GL.val (by exact EvP.r (Ev.extract rfl rfl)) rfl rfl ?_
      refine GL.val (by exact EvP.r (Ev.extract rfl rfl)) rfl rfl ?_
      refine GL.val (by exact EvP.r (Ev.assign rfl)) rfl rfl ?_
      refine GL.val (by exact EvP.r (Ev.assign rfl)) rfl rfl ?_
      refine GL.nil ?_
      refine GE.seq ?_
      refine GC.seq ?_
      refine GC.region ?_
      refine GL.val (by exact EvP.r (Ev.move rfl)) rfl rfl ?_
      refine GL.val (by exact EvP.r (Ev.assign rfl)) rfl rfl ?_
      refine GL.nil ?_
      refine GE.seq ?_
      refine GC.ret ?_
      -- returns, path fF
      refine GE.ret_tmp (L' := row intE B19 d19 (readL ps (valF xs)) :: L) (.inl rfl) rfl rfl (by first | exact Sub.refl | exact Sub.nil | (repeat (first | exact Sub.refl | exact Sub.nil | refine Sub.cons (by (repeat (first | exact Pick.head | apply Pick.tail)); fail_if_success (focus skip)) ?_ | refine Sub.drop ?_))) ?_
      rw [show rdsL ps xs = readL ps (valF xs) by rw [rdsL, if_pos h2]]
      exact ⟨_, _, rfl, rfl⟩
theorem sReadsWhole_spec (w0 : World) (L : List Asn) (A : Option Addr) (c : Nat) (ps : List Part) (hR : Rd w0 L partE A c ps) (B : Option Addr) (d : Nat) (xs : List Int) (hX : Rd w0 L intE B d xs) (hp : ps.length ≤ 1100000) (hl : xs.length ≤ 1100000) :
    Tr Try.prog 28 #[.agg #[.slice A ps.length c], .slice B xs.length d] w0 L (fun v L' => v = .bool (fitV ps xs && decide ((readL ps (valF xs)).length = (mayL ps).length)) ∧ L' = L) := by
  refine Tr.enter (args := [.agg #[.slice A ps.length c], .slice B xs.length d]) Try.func28 Try.ntmps28 rfl rfl ?_
  refine GC.seq ?_
  refine GC.region ?_
  refine GL.box_agg rfl rfl ?_; intro g2
  refine GL.val (by exact EvP.r (Ev.assign rfl)) rfl rfl ?_
  refine GL.nil ?_
  refine GE.seq ?_
  refine GC.seq ?_
  refine GC.seq ?_
  refine GC.region ?_
  refine GL.val (by exact (by first | exact Ev.load_blk_all rfl rfl (BlkRd.of_pick (by (repeat (first | exact Pick.head | apply Pick.tail)); fail_if_success (focus skip))) Imp.refl (by rfl) | exact Ev.load_blk_all rfl rfl (by assumption) (by first | exact Imp.refl | exact Imp.nil | ((repeat (first | exact Imp.refl | refine Imp.cons ?_)); fail_if_success (focus skip))) (by rfl))) rfl rfl ?_
  refine GL.callF rfl rfl (validFormula_spec _ _ _ _ _ (by first | assumption | exact Rd.of_pick (by (repeat (first | exact Pick.head | apply Pick.tail)); fail_if_success (focus skip)) | exact Rd.imp (by assumption) (by first | exact Imp.refl | exact Imp.nil | ((repeat (first | exact Imp.refl | refine Imp.cons ?_)); fail_if_success (focus skip)))) (by first | omega | (simp; done) | (simp; omega))) ?_
  refine GL.val (by exact EvP.r (Ev.not rfl)) rfl rfl ?_
  refine GL.val (by exact EvP.r (Ev.move rfl)) rfl rfl ?_
  first | refine GL.gdec rfl rfl (fun h1 => ?_) (fun h1 => ?_) | refine GL.gndec rfl rfl (fun h1 => ?_) (fun h1 => ?_) | refine GL.gnot rfl rfl (fun h1 => ?_) (fun h1 => ?_) | refine GL.gbool rfl rfl (fun h1 => ?_) (fun h1 => ?_)
  · -- t
    refine GL.unwant rfl rfl rfl rfl ?_
    refine GL.unwant rfl rfl rfl rfl ?_
    refine GL.unwant rfl rfl rfl rfl ?_
    refine GL.unwant rfl rfl rfl rfl ?_
    refine GL.val (by exact EvP.r (Ev.pick_true rfl rfl)) rfl rfl ?_
    refine GL.nil ?_
    refine GE.seq ?_
    refine GC.cond_true rfl ?_
    refine GC.seq ?_
    refine GC.region ?_
    refine GL.val (by exact EvP.r (Ev.assign rfl)) rfl rfl ?_
    refine GL.nil ?_
    refine GE.seq ?_
    refine GC.ret ?_
    refine GE.seq_ret ?_
    -- returns, path t
    refine GE.ret_tmp (L' := L) (.inl rfl) rfl rfl (by first | exact Sub.refl | exact Sub.nil | (repeat (first | exact Sub.refl | exact Sub.nil | refine Sub.cons (by (repeat (first | exact Pick.head | apply Pick.tail)); fail_if_success (focus skip)) ?_ | refine Sub.drop ?_))) ?_
    exact ⟨by rw [fitV_not.2 (fun h => validF_not.1 h1 h.1)]; rfl, rfl⟩
  · -- f
    refine GL.want rfl rfl ?_
    refine GL.val (by exact (by first | exact Ev.load_blk_all rfl rfl (BlkRd.of_pick (by (repeat (first | exact Pick.head | apply Pick.tail)); fail_if_success (focus skip))) Imp.refl (by rfl) | exact Ev.load_blk_all rfl rfl (by assumption) (by first | exact Imp.refl | exact Imp.nil | ((repeat (first | exact Imp.refl | refine Imp.cons ?_)); fail_if_success (focus skip))) (by rfl))) rfl rfl ?_
    refine GL.want rfl rfl ?_
    refine GL.val (by exact EvP.r (Ev.move rfl)) rfl rfl ?_
    refine GL.want rfl rfl ?_
    refine GL.callF rfl rfl ((by have := validValues_spec w0 (blk g2 25 [.slice A ps.length c] :: L) A c ps (hR.imp (by first | exact Imp.refl | exact Imp.nil | ((repeat (first | exact Imp.refl | refine Imp.cons ?_)); fail_if_success (focus skip)))) B d xs (hX.imp (by first | exact Imp.refl | exact Imp.nil | ((repeat (first | exact Imp.refl | refine Imp.cons ?_)); fail_if_success (focus skip)))) hp hl; rw [fitB_eq (validF_iff.1 h1)] at this; exact this)) ?_
    refine GL.want rfl rfl ?_
    refine GL.val (by exact EvP.r (Ev.not rfl)) rfl rfl ?_
    refine GL.val (by exact EvP.r (Ev.pick_false rfl rfl)) rfl rfl ?_
    refine GL.nil ?_
    refine GE.seq ?_
    first | refine GC.if_dec rfl (fun h2 => ?_) (fun h2 => ?_) | refine GC.if_ndec rfl (fun h2 => ?_) (fun h2 => ?_) | refine GC.if_not rfl (fun h2 => ?_) (fun h2 => ?_) | refine GC.if_bool rfl (fun h2 => ?_) (fun h2 => ?_)
    · -- fT
      refine GC.seq ?_
      refine GC.region ?_
      refine GL.val (by exact EvP.r (Ev.assign rfl)) rfl rfl ?_
      refine GL.nil ?_
      refine GE.seq ?_
      refine GC.ret ?_
      refine GE.seq_ret ?_
      -- returns, path fT
      refine GE.ret_tmp (L' := L) (.inl rfl) rfl rfl (by first | exact Sub.refl | exact Sub.nil | (repeat (first | exact Sub.refl | exact Sub.nil | refine Sub.cons (by (repeat (first | exact Pick.head | apply Pick.tail)); fail_if_success (focus skip)) ?_ | refine Sub.drop ?_))) ?_
      exact ⟨by rw [h2]; rfl, rfl⟩
    · -- fF
      have hfit := fitV_iff.1 h2
      refine GC.skip ?_
      refine GE.seq ?_
      refine GC.seq ?_
      refine GC.region ?_
      refine GL.val (by exact (by first | exact Ev.load_blk_all rfl rfl (BlkRd.of_pick (by (repeat (first | exact Pick.head | apply Pick.tail)); fail_if_success (focus skip))) Imp.refl (by rfl) | exact Ev.load_blk_all rfl rfl (by assumption) (by first | exact Imp.refl | exact Imp.nil | ((repeat (first | exact Imp.refl | refine Imp.cons ?_)); fail_if_success (focus skip))) (by rfl))) rfl rfl ?_
      refine GL.val (by exact EvP.r (Ev.move rfl)) rfl rfl ?_
      refine GL.call rfl rfl (srun_spec _ _ _ _ _ (by first | assumption | exact Rd.of_pick (by (repeat (first | exact Pick.head | apply Pick.tail)); fail_if_success (focus skip)) | exact Rd.imp (by assumption) (by first | exact Imp.refl | exact Imp.nil | ((repeat (first | exact Imp.refl | refine Imp.cons ?_)); fail_if_success (focus skip)))) _ _ _ (by first | assumption | exact Rd.of_pick (by (repeat (first | exact Pick.head | apply Pick.tail)); fail_if_success (focus skip)) | exact Rd.imp (by assumption) (by first | exact Imp.refl | exact Imp.nil | ((repeat (first | exact Imp.refl | refine Imp.cons ?_)); fail_if_success (focus skip)))) (by assumption)) ?_
      rintro _ _ ⟨B19, d19, rfl, rfl⟩
      refine GL.val (by exact EvP.r (Ev.move rfl)) rfl rfl ?_
      refine GL.val (by exact EvP.r (Ev.extract rfl rfl)) rfl rfl ?_
      refine GL.val (by exact EvP.r (Ev.extract rfl rfl)) rfl rfl ?_
      refine GL.val (by exact EvP.r (Ev.assign rfl)) rfl rfl ?_
      refine GL.val (by exact EvP.r (Ev.assign rfl)) rfl rfl ?_
      refine GL.nil ?_
      refine GE.seq ?_
      refine GC.seq ?_
      refine GC.region ?_
      refine GL.val (by exact EvP.r (Ev.move rfl)) rfl rfl ?_
      refine GL.val (by exact EvP.r (Ev.len rfl)) rfl rfl ?_
      refine GL.val (by exact (by first | exact Ev.load_blk_all rfl rfl (BlkRd.of_pick (by (repeat (first | exact Pick.head | apply Pick.tail)); fail_if_success (focus skip))) Imp.refl (by rfl) | exact Ev.load_blk_all rfl rfl (by assumption) (by first | exact Imp.refl | exact Imp.nil | ((repeat (first | exact Imp.refl | refine Imp.cons ?_)); fail_if_success (focus skip))) (by rfl))) rfl rfl ?_
      refine GL.call rfl rfl (smayRead_spec _ _ _ _ _ (by first | assumption | exact Rd.of_pick (by (repeat (first | exact Pick.head | apply Pick.tail)); fail_if_success (focus skip)) | exact Rd.imp (by assumption) (by first | exact Imp.refl | exact Imp.nil | ((repeat (first | exact Imp.refl | refine Imp.cons ?_)); fail_if_success (focus skip)))) (by first | omega | (simp; done) | (simp; omega))) ?_
      rintro _ _ ⟨B25, d25, rfl, rfl⟩
      refine GL.val (by exact EvP.r (Ev.len rfl)) rfl rfl ?_
      refine GL.val (by exact EvP.r (Ev.eql rfl rfl)) rfl rfl ?_
      refine GL.val (by exact EvP.r (Ev.assign rfl)) rfl rfl ?_
      refine GL.nil ?_
      refine GE.seq ?_
      refine GC.ret ?_
      -- returns, path fF
      refine GE.ret_tmp (L' := L) (.inl rfl) rfl rfl (by first | exact Sub.refl | exact Sub.nil | (repeat (first | exact Sub.refl | exact Sub.nil | refine Sub.cons (by (repeat (first | exact Pick.head | apply Pick.tail)); fail_if_success (focus skip)) ?_ | refine Sub.drop ?_))) ?_
      exact ⟨by rw [h2]; simp; omega, rfl⟩
theorem ReadsOf1_spec (w0 : World) (L : List Asn) (n : Int) (g : Nat) (B : Option Addr) (d : Nat) (xs : List Int) (hb : BlkRd w0 L g 26 [.slice B xs.length d]) (hX : Rd w0 L intE B d xs) (h0 : 0 ≤ n) (h1 : n < xs.length) : Tr Try.prog 61 #[.int .i64 n, .pointer (some ⟨g, 0, none⟩)] w0 L (fun v L' => v = .int .i64 (valF xs n) ∧ L' = L) := by
  refine Tr.enter (args := [.int .i64 n, .pointer (some ⟨g, 0, none⟩)]) Try.func61 Try.ntmps61 rfl rfl ?_
  refine GC.seq ?_
  refine GC.region ?_
  refine GL.val (by exact EvP.r (Ev.assign rfl)) rfl rfl ?_
  refine GL.nil ?_
  refine GE.seq ?_
  refine GC.seq ?_
  refine GC.region ?_
  refine GL.val (by exact (by first | exact Ev.load_blk rfl rfl (BlkRd.of_pick (by (repeat (first | exact Pick.head | apply Pick.tail)); fail_if_success (focus skip))) Imp.refl (by rfl) | exact Ev.load_blk rfl rfl (by assumption) (by first | exact Imp.refl | exact Imp.nil | ((repeat (first | exact Imp.refl | refine Imp.cons ?_)); fail_if_success (focus skip))) (by rfl))) rfl rfl ?_
  refine GL.val (by exact EvP.r (Ev.move rfl)) rfl rfl ?_
  refine GL.val (by exact (by first | exact Ev.index rfl rfl (by assumption) (by first | exact Imp.refl | exact Imp.nil | ((repeat (first | exact Imp.refl | refine Imp.cons ?_)); fail_if_success (focus skip))) (by first | rfl | exact (Int.toNat_of_nonneg (by omega)).symm) (by first | omega | (show 0 < _; omega) | (simp; omega)) (by first | exact Nat.le_refl _ | (simp; done) | omega | (simp; omega)) | exact Ev.index rfl rfl (Rd.of_pick (by (repeat (first | exact Pick.head | apply Pick.tail)); fail_if_success (focus skip))) Imp.refl (by first | rfl | exact (Int.toNat_of_nonneg (by omega)).symm) (by first | omega | (show 0 < _; omega) | (simp; omega)) (by first | exact Nat.le_refl _ | (simp; done) | omega | (simp; omega)))) rfl rfl ?_
  refine GL.val (by exact (by first | exact Ev.load_el rfl (by assumption) (by first | exact Imp.refl | exact Imp.nil | ((repeat (first | exact Imp.refl | refine Imp.cons ?_)); fail_if_success (focus skip))) rfl rfl rfl (List.getElem?_eq_getElem (by first | omega | (simp; done) | (simp; omega))) | exact Ev.load_el rfl (Rd.of_pick (by (repeat (first | exact Pick.head | apply Pick.tail)); fail_if_success (focus skip))) Imp.refl rfl rfl rfl (List.getElem?_eq_getElem (by first | omega | (simp; done) | (simp; omega))))) rfl rfl ?_
  refine GL.val (by exact EvP.r (Ev.assign rfl)) rfl rfl ?_
  refine GL.nil ?_
  refine GE.seq ?_
  refine GC.ret ?_
  -- returns, path 
  refine GE.ret_tmp (L' := L) (.inl rfl) rfl rfl (by first | exact Sub.refl | exact Sub.nil | (repeat (first | exact Sub.refl | exact Sub.nil | refine Sub.cons (by (repeat (first | exact Pick.head | apply Pick.tail)); fail_if_success (focus skip)) ?_ | refine Sub.drop ?_))) ?_
  exact ⟨by rw [at0_eq]; rfl, rfl⟩
theorem iReadsOf_spec (w0 : World) (L : List Asn) (A : Option Addr) (c : Nat) (ps : List Part) (hR : Rd w0 L partE A c ps) (B : Option Addr) (d : Nat) (xs : List Int) (hX : Rd w0 L intE B d xs) (hl : xs.length ≤ 1100000) :
    Tr Try.prog 21 #[.agg #[.slice A ps.length c], .slice B xs.length d] w0 L (fun v L' => ∃ B' d', v = .slice B' (rdsL ps xs).length d' ∧ L' = row intE B' d' (rdsL ps xs) :: L) := by
  refine Tr.enter (args := [.agg #[.slice A ps.length c], .slice B xs.length d]) Try.func21 Try.ntmps21 rfl rfl ?_
  refine GC.seq ?_
  refine GC.region ?_
  refine GL.box_agg rfl rfl ?_; intro g2
  refine GL.box_one rfl rfl rfl ?_; intro g3
  refine GL.val (by exact EvP.r (Ev.assign rfl)) rfl rfl ?_
  refine GL.nil ?_
  refine GE.seq ?_
  refine GC.seq ?_
  refine GC.seq ?_
  refine GC.region ?_
  refine GL.val (by exact (by first | exact Ev.load_blk_all rfl rfl (BlkRd.of_pick (by (repeat (first | exact Pick.head | apply Pick.tail)); fail_if_success (focus skip))) Imp.refl (by rfl) | exact Ev.load_blk_all rfl rfl (by assumption) (by first | exact Imp.refl | exact Imp.nil | ((repeat (first | exact Imp.refl | refine Imp.cons ?_)); fail_if_success (focus skip))) (by rfl))) rfl rfl ?_
  refine GL.val (by exact (by first | exact Ev.load_blk rfl rfl (BlkRd.of_pick (by (repeat (first | exact Pick.head | apply Pick.tail)); fail_if_success (focus skip))) Imp.refl (by rfl) | exact Ev.load_blk rfl rfl (by assumption) (by first | exact Imp.refl | exact Imp.nil | ((repeat (first | exact Imp.refl | refine Imp.cons ?_)); fail_if_success (focus skip))) (by rfl))) rfl rfl ?_
  refine GL.callF rfl rfl (valuesFit_spec _ _ _ _ _ (by first | assumption | exact Rd.of_pick (by (repeat (first | exact Pick.head | apply Pick.tail)); fail_if_success (focus skip)) | exact Rd.imp (by assumption) (by first | exact Imp.refl | exact Imp.nil | ((repeat (first | exact Imp.refl | refine Imp.cons ?_)); fail_if_success (focus skip)))) _ _ _ (by first | assumption | exact Rd.of_pick (by (repeat (first | exact Pick.head | apply Pick.tail)); fail_if_success (focus skip)) | exact Rd.imp (by assumption) (by first | exact Imp.refl | exact Imp.nil | ((repeat (first | exact Imp.refl | refine Imp.cons ?_)); fail_if_success (focus skip)))) (by first | omega | (simp; done) | (simp; omega))) ?_
  refine GL.val (by exact EvP.r (Ev.not rfl)) rfl rfl ?_
  refine GL.nil ?_
  refine GE.seq ?_
  first | refine GC.if_dec rfl (fun h1 => ?_) (fun h1 => ?_) | refine GC.if_ndec rfl (fun h1 => ?_) (fun h1 => ?_) | refine GC.if_not rfl (fun h1 => ?_) (fun h1 => ?_) | refine GC.if_bool rfl (fun h1 => ?_) (fun h1 => ?_)
  · -- T
    refine GC.seq ?_
    refine GC.region ?_
    refine GL.val (by exact EvP.r (Ev.assign rfl)) rfl rfl ?_
    refine GL.nil ?_
    refine GE.seq ?_
    refine GC.ret ?_
    refine GE.seq_ret ?_
    -- returns, path T
    refine GE.state (fun _ hs => hs.empty intE none) ?_
    refine GE.ret_tmp (L' := row intE none 0 [] :: L) (.inl rfl) rfl rfl (by first | exact Sub.refl | exact Sub.nil | (repeat (first | exact Sub.refl | exact Sub.nil | refine Sub.cons (by (repeat (first | exact Pick.head | apply Pick.tail)); fail_if_success (focus skip)) ?_ | refine Sub.drop ?_))) ?_
    rw [show rdsL ps xs = [] by rw [rdsL, if_neg]; rw [h1]; simp]
    exact ⟨none, 0, rfl, rfl⟩
  · -- F
    have hf := fitV_iff.1 h1
    refine GC.skip ?_
    refine GE.seq ?_
    refine GC.seq ?_
    refine GC.region ?_
    refine GL.val (by exact (by first | exact Ev.load_blk_all rfl rfl (BlkRd.of_pick (by (repeat (first | exact Pick.head | apply Pick.tail)); fail_if_success (focus skip))) Imp.refl (by rfl) | exact Ev.load_blk_all rfl rfl (by assumption) (by first | exact Imp.refl | exact Imp.nil | ((repeat (first | exact Imp.refl | refine Imp.cons ?_)); fail_if_success (focus skip))) (by rfl))) rfl rfl ?_
    refine GL.val (by exact EvP.r (Ev.makeFunc rfl rfl)) rfl rfl ?_
    refine GL.call rfl rfl (run_spec w0 _ A c ps (hR.imp (by first | exact Imp.refl | exact Imp.nil | ((repeat (first | exact Imp.refl | refine Imp.cons ?_)); fail_if_success (focus skip)))) hf.1 _ _ _ (valF xs) (fun Y hY n hn => ReadsOf1_spec _ _ _ g3 B d xs ((BlkRd.of_pick (by (repeat (first | exact Pick.head | apply Pick.tail)); fail_if_success (focus skip))).imp hY) ((hX.imp (by first | exact Imp.refl | exact Imp.nil | ((repeat (first | exact Imp.refl | refine Imp.cons ?_)); fail_if_success (focus skip)))).imp hY) (hf.give hn).1 (hf.give hn).2) hf.vals) ?_
    rintro _ _ ⟨B1, rfl, rfl⟩
    refine GL.val (by exact EvP.r (Ev.move rfl)) rfl rfl ?_
    refine GL.val (by exact EvP.r (Ev.extract rfl rfl)) rfl rfl ?_
    refine GL.val (by exact EvP.r (Ev.extract rfl rfl)) rfl rfl ?_
    refine GL.val (by exact EvP.r (Ev.assign rfl)) rfl rfl ?_
    refine GL.val (by exact EvP.r (Ev.assign rfl)) rfl rfl ?_
    refine GL.nil ?_
    refine GE.seq ?_
    refine GC.seq ?_
    refine GC.region ?_
    refine GL.val (by exact EvP.r (Ev.move rfl)) rfl rfl ?_
    refine GL.val (by exact EvP.r (Ev.assign rfl)) rfl rfl ?_
    refine GL.nil ?_
    refine GE.seq ?_
    refine GC.ret ?_
    -- returns, path F
    refine GE.ret_tmp (L' := row intE B1 (readL ps (valF xs)).length (readL ps (valF xs)) :: L) (.inl rfl) rfl rfl (by first | exact Sub.refl | exact Sub.nil | (repeat (first | exact Sub.refl | exact Sub.nil | refine Sub.cons (by (repeat (first | exact Pick.head | apply Pick.tail)); fail_if_success (focus skip)) ?_ | refine Sub.drop ?_))) ?_
    rw [show rdsL ps xs = readL ps (valF xs) by rw [rdsL, if_pos h1]]
    exact ⟨_, _, rfl, rfl⟩
theorem iReadsWhole_spec (w0 : World) (L : List Asn) (A : Option Addr) (c : Nat) (ps : List Part) (hR : Rd w0 L partE A c ps) (B : Option Addr) (d : Nat) (xs : List Int) (hX : Rd w0 L intE B d xs) (hl : xs.length ≤ 1100000) :
    Tr Try.prog 29 #[.agg #[.slice A ps.length c], .slice B xs.length d] w0 L (fun v L' => v = .bool (fitV ps xs && decide ((readL ps (valF xs)).length = (mayL ps).length)) ∧ L' = L) := by
  refine Tr.enter (args := [.agg #[.slice A ps.length c], .slice B xs.length d]) Try.func29 Try.ntmps29 rfl rfl ?_
  refine GC.seq ?_
  refine GC.region ?_
  refine GL.box_agg rfl rfl ?_; intro g2
  refine GL.val (by exact EvP.r (Ev.assign rfl)) rfl rfl ?_
  refine GL.nil ?_
  refine GE.seq ?_
  refine GC.seq ?_
  refine GC.region_any #[false, false, true, false, false, false, true, false, false, true, false, false, false, false] mixed ?_
  refine GA.read 0 #[false, true, false, false, false, false, false, false, false, false, false, false, false, false] rfl (by exact (by first | exact Ev.load_blk_all rfl rfl (BlkRd.of_pick (by (repeat (first | exact Pick.head | apply Pick.tail)); fail_if_success (focus skip))) Imp.refl (by rfl) | exact Ev.load_blk_all rfl rfl (by assumption) (by first | exact Imp.refl | exact Imp.nil | ((repeat (first | exact Imp.refl | refine Imp.cons ?_)); fail_if_success (focus skip))) (by rfl))) rfl rfl (by kernel_rfl) rfl (by kernel_rfl) (by kernel_rfl) (fun _ _ _ h => h) ?_
  refine GA.take 1 #[true, false, false, false, false, false, false, false, false, false, false, false, false, false] rfl (by exact Ev.move rfl) rfl rfl (by kernel_rfl) rfl (by kernel_rfl) (by kernel_rfl) (fun _ _ _ h => h) ?_
  refine GA.branch (rs := [2]) (JOk.live (by exact (by first | exact Ev.load_blk_all rfl rfl (BlkRd.of_pick (by (repeat (first | exact Pick.head | apply Pick.tail)); fail_if_success (focus skip))) Imp.refl (by rfl) | exact Ev.load_blk_all rfl rfl (by assumption) (by first | exact Imp.refl | exact Imp.nil | ((repeat (first | exact Imp.refl | refine Imp.cons ?_)); fail_if_success (focus skip))) (by rfl))) JOk.nil) (by kernel_rfl) (by simp) ?_
  refine GAs.cons rfl ?_ ?_
  · --  op 2
    refine GL.callF rfl rfl (valuesFit_spec _ _ _ _ _ (by first | assumption | exact Rd.of_pick (by (repeat (first | exact Pick.head | apply Pick.tail)); fail_if_success (focus skip)) | exact Rd.imp (by assumption) (by first | exact Imp.refl | exact Imp.nil | ((repeat (first | exact Imp.refl | refine Imp.cons ?_)); fail_if_success (focus skip)))) _ _ _ (by first | assumption | exact Rd.of_pick (by (repeat (first | exact Pick.head | apply Pick.tail)); fail_if_success (focus skip)) | exact Rd.imp (by assumption) (by first | exact Imp.refl | exact Imp.nil | ((repeat (first | exact Imp.refl | refine Imp.cons ?_)); fail_if_success (focus skip)))) (by first | omega | (simp; done) | (simp; omega))) ?_
    refine GL.nil ?_
    refine GE.any ?_
    refine GA.take 3 #[true, true, true, false, false, false, false, false, false, false, false, false, false, false] rfl (by exact Ev.move rfl) rfl rfl (by kernel_rfl) rfl (by kernel_rfl) (by kernel_rfl) (fun _ _ _ h => h) ?_
    first | refine GA.split_dec (d := 8) rfl (fun h1 => ?_) (fun h1 => ?_) | refine GA.split_ndec (d := 8) rfl (fun h1 => ?_) (fun h1 => ?_) | refine GA.split (d := 8) rfl (fun h1 => ?_) (fun h1 => ?_)
    · -- t
      have hf := fitV_iff.1 h1
      have hfr := hf.1.fit
      have hpl := hf.1.2.1
      refine GA.read_want 4 #[true, true, true, true, false, true, false, false, true, false, false, false, false, false] rfl rfl rfl (by exact (by first | exact Ev.load_blk_all rfl rfl (BlkRd.of_pick (by (repeat (first | exact Pick.head | apply Pick.tail)); fail_if_success (focus skip))) Imp.refl (by rfl) | exact Ev.load_blk_all rfl rfl (by assumption) (by first | exact Imp.refl | exact Imp.nil | ((repeat (first | exact Imp.refl | refine Imp.cons ?_)); fail_if_success (focus skip))) (by rfl))) rfl (by kernel_rfl) rfl (by kernel_rfl) (by kernel_rfl) (fun _ _ _ h => h) ?_
      refine GA.take_want 5 #[true, true, true, true, true, false, false, false, true, false, false, false, false, false] rfl rfl rfl (by exact Ev.move rfl) rfl (by kernel_rfl) rfl (by kernel_rfl) (by kernel_rfl) (fun _ _ _ h => h) ?_
      refine GA.read_want 8 #[true, true, true, true, true, true, true, true, false, false, false, false, false, false] rfl rfl rfl (by exact (by first | exact Ev.load_blk_all rfl rfl (BlkRd.of_pick (by (repeat (first | exact Pick.head | apply Pick.tail)); fail_if_success (focus skip))) Imp.refl (by rfl) | exact Ev.load_blk_all rfl rfl (by assumption) (by first | exact Imp.refl | exact Imp.nil | ((repeat (first | exact Imp.refl | refine Imp.cons ?_)); fail_if_success (focus skip))) (by rfl))) rfl (by kernel_rfl) rfl (by kernel_rfl) (by kernel_rfl) (fun _ _ _ h => h) ?_
      refine GA.branch (rs := [6]) (JOk.live (by exact (by first | exact Ev.load_blk_all rfl rfl (BlkRd.of_pick (by (repeat (first | exact Pick.head | apply Pick.tail)); fail_if_success (focus skip))) Imp.refl (by rfl) | exact Ev.load_blk_all rfl rfl (by assumption) (by first | exact Imp.refl | exact Imp.nil | ((repeat (first | exact Imp.refl | refine Imp.cons ?_)); fail_if_success (focus skip))) (by rfl))) (JOk.live (by exact (by first | exact Ev.load_blk_all rfl rfl (BlkRd.of_pick (by (repeat (first | exact Pick.head | apply Pick.tail)); fail_if_success (focus skip))) Imp.refl (by rfl) | exact Ev.load_blk_all rfl rfl (by assumption) (by first | exact Imp.refl | exact Imp.nil | ((repeat (first | exact Imp.refl | refine Imp.cons ?_)); fail_if_success (focus skip))) (by rfl))) (JOk.dead (by kernel_rfl) JOk.nil))) (by kernel_rfl) (by simp) ?_
      refine GAs.cons rfl ?_ ?_
      · -- t op 6
        refine GL.want rfl rfl ?_
        refine GL.call rfl rfl (iReadsOf_spec _ _ _ _ _ (by first | assumption | exact Rd.of_pick (by (repeat (first | exact Pick.head | apply Pick.tail)); fail_if_success (focus skip)) | exact Rd.imp (by assumption) (by first | exact Imp.refl | exact Imp.nil | ((repeat (first | exact Imp.refl | refine Imp.cons ?_)); fail_if_success (focus skip)))) _ _ _ (by first | assumption | exact Rd.of_pick (by (repeat (first | exact Pick.head | apply Pick.tail)); fail_if_success (focus skip)) | exact Rd.imp (by assumption) (by first | exact Imp.refl | exact Imp.nil | ((repeat (first | exact Imp.refl | refine Imp.cons ?_)); fail_if_success (focus skip)))) (by first | omega | (simp; done) | (simp; omega))) ?_
        rintro _ _ ⟨B11, d11, rfl, rfl⟩
        refine GL.nil ?_
        refine GE.any ?_
        refine GA.take_want 7 #[true, true, true, true, true, true, true, false, true, true, true, false, false, false] rfl rfl rfl (by exact Ev.len rfl) rfl (by kernel_rfl) rfl (by kernel_rfl) (by kernel_rfl) (fun _ _ _ h => h) ?_
        refine GA.branch (rs := [9]) (JOk.live (by exact (by first | exact Ev.load_blk_all rfl rfl (BlkRd.of_pick (by (repeat (first | exact Pick.head | apply Pick.tail)); fail_if_success (focus skip))) Imp.refl (by rfl) | exact Ev.load_blk_all rfl rfl (by assumption) (by first | exact Imp.refl | exact Imp.nil | ((repeat (first | exact Imp.refl | refine Imp.cons ?_)); fail_if_success (focus skip))) (by rfl))) (JOk.dead (by kernel_rfl) (JOk.dead (by kernel_rfl) JOk.nil))) (by kernel_rfl) (by simp) ?_
        refine GAs.cons rfl ?_ ?_
        · -- t op 9
          refine GL.want rfl rfl ?_
          refine GL.call rfl rfl (mayRead_spec _ _ _ _ _ (by first | assumption | exact Rd.of_pick (by (repeat (first | exact Pick.head | apply Pick.tail)); fail_if_success (focus skip)) | exact Rd.imp (by assumption) (by first | exact Imp.refl | exact Imp.nil | ((repeat (first | exact Imp.refl | refine Imp.cons ?_)); fail_if_success (focus skip)))) (by first | omega | (simp; done) | (simp; omega)) (by assumption)) ?_
          rintro _ _ ⟨B14, rfl, rfl⟩
          refine GL.nil ?_
          refine GE.any ?_
          refine GA.take_want 10 #[true, true, true, true, true, true, true, true, true, true, false, false, false, false] rfl rfl rfl (by exact Ev.len rfl) rfl (by kernel_rfl) rfl (by kernel_rfl) (by kernel_rfl) (fun _ _ _ h => h) ?_
          refine GA.take_want 11 #[true, true, true, true, true, true, true, true, true, true, true, false, false, false] rfl rfl rfl (by exact Ev.eql rfl rfl) rfl (by kernel_rfl) rfl (by kernel_rfl) (by kernel_rfl) (fun _ _ _ h => h) ?_
          refine GA.take 12 #[true, true, true, true, true, true, true, true, true, true, true, true, false, false] rfl (by exact Ev.pick_true rfl rfl) rfl rfl (by kernel_rfl) rfl (by kernel_rfl) (by kernel_rfl) (fun _ _ _ h => h) ?_
          refine GA.take 13 #[true, true, true, true, true, true, true, true, true, true, true, true, true, false] rfl (by exact Ev.assign rfl) rfl rfl (by kernel_rfl) rfl (by kernel_rfl) (by kernel_rfl) (fun _ _ _ h => h) ?_
          refine GA.done (JOk.dead (by kernel_rfl) (JOk.dead (by kernel_rfl) (JOk.dead (by kernel_rfl) JOk.nil))) (by kernel_rfl) ?_
          refine GE.seq ?_
          refine GC.ret ?_
          -- returns, path t
          refine GE.ret_tmp (L' := L) (.inl rfl) rfl rfl (by first | exact Sub.refl | exact Sub.nil | (repeat (first | exact Sub.refl | exact Sub.nil | refine Sub.cons (by (repeat (first | exact Pick.head | apply Pick.tail)); fail_if_success (focus skip)) ?_ | refine Sub.drop ?_))) ?_
          exact ⟨by rw [h1, show rdsL ps xs = readL ps (valF xs) by rw [rdsL, if_pos h1]]; simp; omega, rfl⟩
        exact GAs.nil
      exact GAs.nil
    · -- f
      refine GA.unwant 4 #[true, true, true, true, false, true, false, false, true, false, false, false, false, false] rfl rfl rfl rfl rfl (by kernel_rfl) rfl (by kernel_rfl) (by kernel_rfl) (fun _ _ _ h => h) ?_
      refine GA.unwant 5 #[true, true, true, true, true, false, false, false, true, false, false, false, false, false] rfl rfl rfl rfl rfl (by kernel_rfl) rfl (by kernel_rfl) (by kernel_rfl) (fun _ _ _ h => h) ?_
      refine GA.unwant 8 #[true, true, true, true, true, true, true, true, false, false, false, false, false, false] rfl rfl rfl rfl rfl (by kernel_rfl) rfl (by kernel_rfl) (by kernel_rfl) (fun _ _ _ h => h) ?_
      refine GA.branch (rs := [6]) (JOk.dead (by kernel_rfl) JOk.nil) (by kernel_rfl) (by simp) ?_
      refine GAs.cons rfl ?_ ?_
      · -- f op 6
        refine GL.unwant rfl rfl rfl rfl ?_
        refine GL.nil ?_
        refine GE.any ?_
        refine GA.unwant 7 #[true, true, true, true, true, true, true, false, true, true, true, false, false, false] rfl rfl rfl rfl rfl (by kernel_rfl) rfl (by kernel_rfl) (by kernel_rfl) (fun _ _ _ h => h) ?_
        refine GA.branch (rs := [9]) (JOk.dead (by kernel_rfl) JOk.nil) (by kernel_rfl) (by simp) ?_
        refine GAs.cons rfl ?_ ?_
        · -- f op 9
          refine GL.unwant rfl rfl rfl rfl ?_
          refine GL.nil ?_
          refine GE.any ?_
          refine GA.unwant 10 #[true, true, true, true, true, true, true, true, true, true, false, false, false, false] rfl rfl rfl rfl rfl (by kernel_rfl) rfl (by kernel_rfl) (by kernel_rfl) (fun _ _ _ h => h) ?_
          refine GA.unwant 11 #[true, true, true, true, true, true, true, true, true, true, true, false, false, false] rfl rfl rfl rfl rfl (by kernel_rfl) rfl (by kernel_rfl) (by kernel_rfl) (fun _ _ _ h => h) ?_
          refine GA.take 12 #[true, true, true, true, true, true, true, true, true, true, true, true, false, false] rfl (by exact Ev.pick_false rfl rfl) rfl rfl (by kernel_rfl) rfl (by kernel_rfl) (by kernel_rfl) (fun _ _ _ h => h) ?_
          refine GA.take 13 #[true, true, true, true, true, true, true, true, true, true, true, true, true, false] rfl (by exact Ev.assign rfl) rfl rfl (by kernel_rfl) rfl (by kernel_rfl) (by kernel_rfl) (fun _ _ _ h => h) ?_
          refine GA.done (JOk.dead (by kernel_rfl) JOk.nil) (by kernel_rfl) ?_
          refine GE.seq ?_
          refine GC.ret ?_
          -- returns, path f
          refine GE.ret_tmp (L' := L) (.inl rfl) rfl rfl (by first | exact Sub.refl | exact Sub.nil | (repeat (first | exact Sub.refl | exact Sub.nil | refine Sub.cons (by (repeat (first | exact Pick.head | apply Pick.tail)); fail_if_success (focus skip)) ?_ | refine Sub.drop ?_))) ?_
          exact ⟨by rw [h1]; rfl, rfl⟩
        exact GAs.nil
      exact GAs.nil
  exact GAs.nil
theorem sRenameReads_spec (w0 : World) (L : List Asn) (A : Option Addr) (c : Nat) (ps : List Part) (hR : Rd w0 L partE A c ps) (B : Option Addr) (d : Nat) (to : List Int) (hX : Rd w0 L intE B d to) (hp : ps.length ≤ 1100000) (hl : to.length ≤ 1100000) :
    Tr Try.prog 14 #[.agg #[.slice A ps.length c], .slice B to.length d] w0 L (fun v L' => ∃ B' d', v = .agg #[.slice B' (renL ps to).length d'] ∧ L' = row partE B' d' (renL ps to) :: L) := by
  refine Tr.enter (args := [.agg #[.slice A ps.length c], .slice B to.length d]) Try.func14 Try.ntmps14 rfl rfl ?_
  refine GC.seq ?_
  refine GC.region ?_
  refine GL.box_agg rfl rfl ?_; intro g2
  refine GL.alloc rfl ?_; intro g4
  refine GL.nil ?_
  refine GE.seq ?_
  refine GC.seq ?_
  refine GC.seq ?_
  refine GC.region ?_
  refine GL.val (by exact (by first | exact Ev.load_blk_all rfl rfl (BlkRd.of_pick (by (repeat (first | exact Pick.head | apply Pick.tail)); fail_if_success (focus skip))) Imp.refl (by rfl) | exact Ev.load_blk_all rfl rfl (by assumption) (by first | exact Imp.refl | exact Imp.nil | ((repeat (first | exact Imp.refl | refine Imp.cons ?_)); fail_if_success (focus skip))) (by rfl))) rfl rfl ?_
  refine GL.callF rfl rfl (validFormula_spec _ _ _ _ _ (by first | assumption | exact Rd.of_pick (by (repeat (first | exact Pick.head | apply Pick.tail)); fail_if_success (focus skip)) | exact Rd.imp (by assumption) (by first | exact Imp.refl | exact Imp.nil | ((repeat (first | exact Imp.refl | refine Imp.cons ?_)); fail_if_success (focus skip)))) (by first | omega | (simp; done) | (simp; omega))) ?_
  refine GL.val (by exact EvP.r (Ev.not rfl)) rfl rfl ?_
  refine GL.val (by exact EvP.r (Ev.move rfl)) rfl rfl ?_
  first | refine GL.gdec rfl rfl (fun h1 => ?_) (fun h1 => ?_) | refine GL.gndec rfl rfl (fun h1 => ?_) (fun h1 => ?_) | refine GL.gnot rfl rfl (fun h1 => ?_) (fun h1 => ?_) | refine GL.gbool rfl rfl (fun h1 => ?_) (fun h1 => ?_)
  · -- t
    refine GL.unwant rfl rfl rfl rfl ?_
    refine GL.unwant rfl rfl rfl rfl ?_
    refine GL.unwant rfl rfl rfl rfl ?_
    refine GL.val (by exact EvP.r (Ev.pick_true rfl rfl)) rfl rfl ?_
    refine GL.val (by exact EvP.r (Ev.move rfl)) rfl rfl ?_
    refine GL.unwant rfl rfl rfl rfl ?_
    refine GL.unwant rfl rfl rfl rfl ?_
    refine GL.unwant rfl rfl rfl rfl ?_
    refine GL.val (by exact EvP.r (Ev.pick_true rfl rfl)) rfl rfl ?_
    refine GL.nil ?_
    refine GE.seq ?_
    refine GC.cond_true rfl ?_
    refine GC.seq ?_
    refine GC.region ?_
    refine GL.val (by exact EvP.r (Ev.build rfl (by first | exact bdPart ⟨_, _, _, _, _⟩ | exact bdReader _ _ _ | exact bdPart4 _ _ _ _ | exact bdForm _ _ _ | exact bdForm0 | exact bdGraph0 | exact bdGraph _ _ _ | exact bdNode1 _ | exact bdNode2 _ _ _ _))) rfl rfl ?_
    refine GL.store_varN rfl rfl rfl (by (repeat (first | exact Pick.head | apply Pick.tail)); fail_if_success (focus skip)) (by rfl) (by rfl) (by rfl) ?_
    refine GL.nil ?_
    refine GE.seq ?_
    refine GC.ret ?_
    refine GE.seq_ret ?_
    -- returns, path t
    refine GE.state (fun _ hs => hs.empty partE none) ?_
    refine GE.ret_cell (L' := row partE none 0 [] :: L) (.inl rfl) rfl rfl rfl (BlkRd.of_pick (by (repeat (first | exact Pick.head | apply Pick.tail)); fail_if_success (focus skip))) (by rfl) (by first | exact Sub.refl | exact Sub.nil | (repeat (first | exact Sub.refl | exact Sub.nil | refine Sub.cons (by (repeat (first | exact Pick.head | apply Pick.tail)); fail_if_success (focus skip)) ?_ | refine Sub.drop ?_))) ?_
    rw [renL_no (fun h => validF_not.1 h1 h.1)]
    exact ⟨none, 0, rfl, rfl⟩
  · -- f
    refine GL.want rfl rfl ?_
    refine GL.val (by exact EvP.r (Ev.move rfl)) rfl rfl ?_
    refine GL.want rfl rfl ?_
    refine GL.val (by exact EvP.r (Ev.len rfl)) rfl rfl ?_
    refine GL.want rfl rfl ?_
    refine GL.val (by exact EvP.r (Ev.gtr rfl rfl)) rfl rfl ?_
    refine GL.val (by exact EvP.r (Ev.pick_false rfl rfl)) rfl rfl ?_
    refine GL.val (by exact EvP.r (Ev.move rfl)) rfl rfl ?_
    first | refine GL.gdec rfl rfl (fun h2 => ?_) (fun h2 => ?_) | refine GL.gndec rfl rfl (fun h2 => ?_) (fun h2 => ?_) | refine GL.gnot rfl rfl (fun h2 => ?_) (fun h2 => ?_) | refine GL.gbool rfl rfl (fun h2 => ?_) (fun h2 => ?_)
    · -- ft
      refine GL.unwant rfl rfl rfl rfl ?_
      refine GL.unwant rfl rfl rfl rfl ?_
      refine GL.unwant rfl rfl rfl rfl ?_
      refine GL.val (by exact EvP.r (Ev.pick_true rfl rfl)) rfl rfl ?_
      refine GL.nil ?_
      refine GE.seq ?_
      refine GC.cond_true rfl ?_
      refine GC.seq ?_
      refine GC.region ?_
      refine GL.val (by exact EvP.r (Ev.build rfl (by first | exact bdPart ⟨_, _, _, _, _⟩ | exact bdReader _ _ _ | exact bdPart4 _ _ _ _ | exact bdForm _ _ _ | exact bdForm0 | exact bdGraph0 | exact bdGraph _ _ _ | exact bdNode1 _ | exact bdNode2 _ _ _ _))) rfl rfl ?_
      refine GL.store_varN rfl rfl rfl (by (repeat (first | exact Pick.head | apply Pick.tail)); fail_if_success (focus skip)) (by rfl) (by rfl) (by rfl) ?_
      refine GL.nil ?_
      refine GE.seq ?_
      refine GC.ret ?_
      refine GE.seq_ret ?_
      -- returns, path ft
      refine GE.state (fun _ hs => hs.empty partE none) ?_
      refine GE.ret_cell (L' := row partE none 0 [] :: L) (.inl rfl) rfl rfl rfl (BlkRd.of_pick (by (repeat (first | exact Pick.head | apply Pick.tail)); fail_if_success (focus skip))) (by rfl) (by first | exact Sub.refl | exact Sub.nil | (repeat (first | exact Sub.refl | exact Sub.nil | refine Sub.cons (by (repeat (first | exact Pick.head | apply Pick.tail)); fail_if_success (focus skip)) ?_ | refine Sub.drop ?_))) ?_
      rw [renL_no (fun h => by have := h.2.1; omega)]
      exact ⟨none, 0, rfl, rfl⟩
    · -- ff
      refine GL.want rfl rfl ?_
      refine GL.val (by exact EvP.r (Ev.move rfl)) rfl rfl ?_
      refine GL.want rfl rfl ?_
      refine GL.callF rfl rfl (allIn_spec _ _ _ _ _ (by first | assumption | exact Rd.of_pick (by (repeat (first | exact Pick.head | apply Pick.tail)); fail_if_success (focus skip)) | exact Rd.imp (by assumption) (by first | exact Imp.refl | exact Imp.nil | ((repeat (first | exact Imp.refl | refine Imp.cons ?_)); fail_if_success (focus skip)))) _ _ (by first | omega | (simp; done) | (simp; omega))) ?_
      refine GL.want rfl rfl ?_
      refine GL.val (by exact EvP.r (Ev.not rfl)) rfl rfl ?_
      refine GL.val (by exact EvP.r (Ev.pick_false rfl rfl)) rfl rfl ?_
      refine GL.nil ?_
      refine GE.seq ?_
      first | refine GC.if_dec rfl (fun h3 => ?_) (fun h3 => ?_) | refine GC.if_ndec rfl (fun h3 => ?_) (fun h3 => ?_) | refine GC.if_not rfl (fun h3 => ?_) (fun h3 => ?_) | refine GC.if_bool rfl (fun h3 => ?_) (fun h3 => ?_)
      · -- ffT
        refine GC.seq ?_
        refine GC.region ?_
        refine GL.val (by exact EvP.r (Ev.build rfl (by first | exact bdPart ⟨_, _, _, _, _⟩ | exact bdReader _ _ _ | exact bdPart4 _ _ _ _ | exact bdForm _ _ _ | exact bdForm0 | exact bdGraph0 | exact bdGraph _ _ _ | exact bdNode1 _ | exact bdNode2 _ _ _ _))) rfl rfl ?_
        refine GL.store_varN rfl rfl rfl (by (repeat (first | exact Pick.head | apply Pick.tail)); fail_if_success (focus skip)) (by rfl) (by rfl) (by rfl) ?_
        refine GL.nil ?_
        refine GE.seq ?_
        refine GC.ret ?_
        refine GE.seq_ret ?_
        -- returns, path ffT
        refine GE.state (fun _ hs => hs.empty partE none) ?_
        refine GE.ret_cell (L' := row partE none 0 [] :: L) (.inl rfl) rfl rfl rfl (BlkRd.of_pick (by (repeat (first | exact Pick.head | apply Pick.tail)); fail_if_success (focus skip))) (by rfl) (by first | exact Sub.refl | exact Sub.nil | (repeat (first | exact Sub.refl | exact Sub.nil | refine Sub.cons (by (repeat (first | exact Pick.head | apply Pick.tail)); fail_if_success (focus skip)) ?_ | refine Sub.drop ?_))) ?_
        rw [renL_no (fun h => by rw [allB_iff.2 h.2.2.1] at h3; cases h3)]
        exact ⟨none, 0, rfl, rfl⟩
      · -- ffF
        have hv := validF_iff.1 h1
        have hpl := hv.2.1
        have hto := allB_iff.1 h3
        refine GC.skip ?_
        refine GE.seq ?_
        refine GC.seq ?_
        refine GC.region ?_
        refine GL.buildSlice rfl (by first | exact bsInt0 | exact bsInt1 _ | exact bsInt2 _ _ | exact bsInt3 _ _ _ | exact bsInt4 _ _ _ _ | exact bsInt5 _ _ _ _ _ | exact bsInt6 _ _ _ _ _ _ | exact bsInt7 _ _ _ _ _ _ _ | exact bsInt8 _ _ _ _ _ _ _ _ | exact bsInt9 _ _ _ _ _ _ _ _ _ | exact bsInt10 _ _ _ _ _ _ _ _ _ _ | exact bsPart0 | exact bsPart1 ⟨_, _, _, _, _⟩ | exact bsNode1 ⟨_, _, _, _⟩ | exact bsPtr3 _ _ _) rfl (by decide) rfl ?_; intro g21
        refine GL.val (by exact EvP.r (Ev.fieldAddr rfl)) rfl rfl ?_
        refine GL.val (by exact (by first | exact Ev.load_blk rfl rfl (BlkRd.of_pick (by (repeat (first | exact Pick.head | apply Pick.tail)); fail_if_success (focus skip))) Imp.refl (by rfl) | exact Ev.load_blk rfl rfl (by assumption) (by first | exact Imp.refl | exact Imp.nil | ((repeat (first | exact Imp.refl | refine Imp.cons ?_)); fail_if_success (focus skip))) (by rfl))) rfl rfl ?_
        first | (refine GL.append rfl rfl (by (repeat (first | exact Pick.head | apply Pick.tail)); fail_if_success (focus skip)) (by assumption) (by first | exact Imp.refl | exact Imp.nil | ((repeat (first | exact Imp.refl | refine Imp.cons ?_)); fail_if_success (focus skip))) (by first | rfl | (simp; done) | (simp; omega)) (by first | rfl | (simp; done) | (simp; omega)) (by first | omega | (simp; omega)) (by first | omega | (simp; omega)) rfl ?_; intro A24 c24) | (refine GL.append rfl rfl (by (repeat (first | exact Pick.head | apply Pick.tail)); fail_if_success (focus skip)) (Rd.of_pick (by (repeat (first | exact Pick.head | apply Pick.tail)); fail_if_success (focus skip))) Imp.refl (by first | rfl | (simp; done) | (simp; omega)) (by first | rfl | (simp; done) | (simp; omega)) (by first | omega | (simp; omega)) (by first | omega | (simp; omega)) rfl ?_; intro A24 c24)
        refine GL.val (by exact EvP.r (Ev.build rfl (by first | exact bdPart ⟨_, _, _, _, _⟩ | exact bdReader _ _ _ | exact bdPart4 _ _ _ _ | exact bdForm _ _ _ | exact bdForm0 | exact bdGraph0 | exact bdGraph _ _ _ | exact bdNode1 _ | exact bdNode2 _ _ _ _))) rfl rfl ?_
        refine GL.alloc rfl ?_; intro g5
        refine GL.store_varN rfl rfl rfl (by (repeat (first | exact Pick.head | apply Pick.tail)); fail_if_success (focus skip)) (by rfl) (by rfl) (by rfl) ?_
        refine GL.nil ?_
        refine GE.seq ?_
        refine GC.seq ?_
        refine GC.seq ?_
        refine GC.region ?_
        refine GL.val (by exact EvP.r (Ev.assign rfl)) rfl rfl ?_
        refine GL.nil ?_
        refine GE.seq ?_
        refine GC.block ?_
        -- loop 1: carried slots [6]
        refine GC.loopK (α := Nat) (fun i => i ≤ ps.length ∧ ∀ j (h : j < i) (h' : j < ps.length), ps[j].kind = 1 → ps[j].n < to.length) (fun i => [(6, .int .i64 i)]) [(1, _), (4, _), (5, _)] (fun i => row partE A24 c24 (renUp to ps i) :: blk g5 25 [.slice A24 ps.length c24] :: blk g4 25 [.slice none 0 0] :: L) (fun i => ps.length - i) 0 (by repeat (first | exact Keeps.nil | refine Keeps.cons rfl ?_)) (by rw [renUp_zero]; exact (by first | exact Sub.refl | exact Sub.nil | (repeat (first | exact Sub.refl | exact Sub.nil | refine Sub.cons (by (repeat (first | exact Pick.head | apply Pick.tail)); fail_if_success (focus skip)) ?_ | refine Sub.drop ?_)))) ⟨Nat.zero_le _, fun _ h => by omega⟩ ?_
        rintro i ⟨hi, hok⟩
        have hrl := renUp_length to ps i
        refine GC.seq ?_
        refine GC.seq ?_
        refine GC.region ?_
        refine GL.val (by exact EvP.r (Ev.move rfl)) rfl rfl ?_
        refine GL.val (by exact EvP.r (Ev.fieldAddr rfl)) rfl rfl ?_
        refine GL.val (by exact (by first | exact Ev.load_blk rfl rfl (BlkRd.of_pick (by (repeat (first | exact Pick.head | apply Pick.tail)); fail_if_success (focus skip))) Imp.refl (by rfl) | exact Ev.load_blk rfl rfl (by assumption) (by first | exact Imp.refl | exact Imp.nil | ((repeat (first | exact Imp.refl | refine Imp.cons ?_)); fail_if_success (focus skip))) (by rfl))) rfl rfl ?_
        refine GL.val (by exact EvP.r (Ev.len rfl)) rfl rfl ?_
        refine GL.val (by exact EvP.r (Ev.lss rfl rfl)) rfl rfl ?_
        refine GL.nil ?_
        refine GE.seq ?_
        first | refine GC.if_dec rfl (fun h4 => ?_) (fun h4 => ?_) | refine GC.if_ndec rfl (fun h4 => ?_) (fun h4 => ?_) | refine GC.if_not rfl (fun h4 => ?_) (fun h4 => ?_) | refine GC.if_bool rfl (fun h4 => ?_) (fun h4 => ?_)
        · -- ffFT
          have hil : i < ps.length := by omega
          have hg := renUp_get to ps i (by omega)
          refine GC.skip ?_
          refine GE.seq ?_
          refine GC.seq ?_
          refine GC.block ?_
          refine GC.seq ?_
          refine GC.seq ?_
          refine GC.region ?_
          refine GL.val (by exact EvP.r (Ev.fieldAddr rfl)) rfl rfl ?_
          refine GL.val (by exact (by first | exact Ev.load_blk rfl rfl (BlkRd.of_pick (by (repeat (first | exact Pick.head | apply Pick.tail)); fail_if_success (focus skip))) Imp.refl (by rfl) | exact Ev.load_blk rfl rfl (by assumption) (by first | exact Imp.refl | exact Imp.nil | ((repeat (first | exact Imp.refl | refine Imp.cons ?_)); fail_if_success (focus skip))) (by rfl))) rfl rfl ?_
          refine GL.val (by exact EvP.r (Ev.move rfl)) rfl rfl ?_
          refine GL.val (by exact (by first | exact Ev.index rfl rfl (by assumption) (by first | exact Imp.refl | exact Imp.nil | ((repeat (first | exact Imp.refl | refine Imp.cons ?_)); fail_if_success (focus skip))) (by first | rfl | exact (Int.toNat_of_nonneg (by omega)).symm) (by first | omega | (show 0 < _; omega) | (simp; omega)) (by first | exact Nat.le_refl _ | (simp; done) | omega | (simp; omega)) | exact Ev.index rfl rfl (Rd.of_pick (by (repeat (first | exact Pick.head | apply Pick.tail)); fail_if_success (focus skip))) Imp.refl (by first | rfl | exact (Int.toNat_of_nonneg (by omega)).symm) (by first | omega | (show 0 < _; omega) | (simp; omega)) (by first | exact Nat.le_refl _ | (simp; done) | omega | (simp; omega)))) rfl rfl ?_
          refine GL.val (by exact EvP.r (Ev.fieldAddr rfl)) rfl rfl ?_
          refine GL.val (by exact (by first | exact Ev.load_el_cell rfl (by assumption) (by first | exact Imp.refl | exact Imp.nil | ((repeat (first | exact Imp.refl | refine Imp.cons ?_)); fail_if_success (focus skip))) (List.getElem?_eq_getElem (by first | omega | (simp; done) | (simp; omega))) rfl | exact Ev.load_el_cell rfl (Rd.of_pick (by (repeat (first | exact Pick.head | apply Pick.tail)); fail_if_success (focus skip))) Imp.refl (List.getElem?_eq_getElem (by first | omega | (simp; done) | (simp; omega))) rfl)) rfl rfl ?_
          refine GL.val (by exact EvP.r (Ev.neq rfl rfl)) rfl rfl ?_
          refine GL.nil ?_
          refine GE.seq ?_
          first | refine GC.if_dec rfl (fun h5 => ?_) (fun h5 => ?_) | refine GC.if_ndec rfl (fun h5 => ?_) (fun h5 => ?_) | refine GC.if_not rfl (fun h5 => ?_) (fun h5 => ?_) | refine GC.if_bool rfl (fun h5 => ?_) (fun h5 => ?_)
          · -- ffFTT
            refine GC.exit ?_
            refine GE.seq_exit ?_
            refine GE.block_exit ?_
            refine GE.seq ?_
            refine GC.region ?_
            refine GL.val (by exact EvP.r (Ev.move rfl)) rfl rfl ?_
            refine GL.val (by exact EvP.r (Ev.add rfl rfl (by omega))) rfl rfl ?_
            refine GL.val (by exact EvP.r (Ev.assign rfl)) rfl rfl ?_
            refine GL.nil ?_
            -- round of loop 1, path ffFTT
            rw [hg] at h5
            refine GE.round (i + 1) ⟨by omega, fun j h h' hk => ?_⟩ (by omega) (by repeat (first | exact Keeps.nil | refine Keeps.cons rfl ?_)) (by rw [← renUp_skip _ _ _ hil h5]; exact (by first | exact Sub.refl | exact Sub.nil | (repeat (first | exact Sub.refl | exact Sub.nil | refine Sub.cons (by (repeat (first | exact Pick.head | apply Pick.tail)); fail_if_success (focus skip)) ?_ | refine Sub.drop ?_))))
            by_cases e : j = i
            · subst e; exact absurd hk h5
            · exact hok j (by omega) h' hk
          · -- ffFTF
            have hn0 : 0 ≤ (renUp to ps i)[i].n := by rw [hg] at h5 ⊢; have := hv.reads hil h5; omega
            refine GC.skip ?_
            refine GE.seq ?_
            refine GC.seq ?_
            refine GC.seq ?_
            refine GC.region ?_
            refine GL.val (by exact EvP.r (Ev.fieldAddr rfl)) rfl rfl ?_
            refine GL.val (by exact (by first | exact Ev.load_blk rfl rfl (BlkRd.of_pick (by (repeat (first | exact Pick.head | apply Pick.tail)); fail_if_success (focus skip))) Imp.refl (by rfl) | exact Ev.load_blk rfl rfl (by assumption) (by first | exact Imp.refl | exact Imp.nil | ((repeat (first | exact Imp.refl | refine Imp.cons ?_)); fail_if_success (focus skip))) (by rfl))) rfl rfl ?_
            refine GL.val (by exact EvP.r (Ev.move rfl)) rfl rfl ?_
            refine GL.val (by exact (by first | exact Ev.index rfl rfl (by assumption) (by first | exact Imp.refl | exact Imp.nil | ((repeat (first | exact Imp.refl | refine Imp.cons ?_)); fail_if_success (focus skip))) (by first | rfl | exact (Int.toNat_of_nonneg (by omega)).symm) (by first | omega | (show 0 < _; omega) | (simp; omega)) (by first | exact Nat.le_refl _ | (simp; done) | omega | (simp; omega)) | exact Ev.index rfl rfl (Rd.of_pick (by (repeat (first | exact Pick.head | apply Pick.tail)); fail_if_success (focus skip))) Imp.refl (by first | rfl | exact (Int.toNat_of_nonneg (by omega)).symm) (by first | omega | (show 0 < _; omega) | (simp; omega)) (by first | exact Nat.le_refl _ | (simp; done) | omega | (simp; omega)))) rfl rfl ?_
            refine GL.val (by exact EvP.r (Ev.fieldAddr rfl)) rfl rfl ?_
            refine GL.val (by exact (by first | exact Ev.load_el_cell rfl (by assumption) (by first | exact Imp.refl | exact Imp.nil | ((repeat (first | exact Imp.refl | refine Imp.cons ?_)); fail_if_success (focus skip))) (List.getElem?_eq_getElem (by first | omega | (simp; done) | (simp; omega))) rfl | exact Ev.load_el_cell rfl (Rd.of_pick (by (repeat (first | exact Pick.head | apply Pick.tail)); fail_if_success (focus skip))) Imp.refl (List.getElem?_eq_getElem (by first | omega | (simp; done) | (simp; omega))) rfl)) rfl rfl ?_
            refine GL.val (by exact EvP.r (Ev.move rfl)) rfl rfl ?_
            refine GL.val (by exact EvP.r (Ev.len rfl)) rfl rfl ?_
            refine GL.val (by exact EvP.r (Ev.geq rfl rfl)) rfl rfl ?_
            refine GL.nil ?_
            refine GE.seq ?_
            first | refine GC.if_dec rfl (fun h6 => ?_) (fun h6 => ?_) | refine GC.if_ndec rfl (fun h6 => ?_) (fun h6 => ?_) | refine GC.if_not rfl (fun h6 => ?_) (fun h6 => ?_) | refine GC.if_bool rfl (fun h6 => ?_) (fun h6 => ?_)
            · -- ffFTFT
              refine GC.seq ?_
              refine GC.region ?_
              refine GL.val (by exact EvP.r (Ev.build rfl (by first | exact bdPart ⟨_, _, _, _, _⟩ | exact bdReader _ _ _ | exact bdPart4 _ _ _ _ | exact bdForm _ _ _ | exact bdForm0 | exact bdGraph0 | exact bdGraph _ _ _ | exact bdNode1 _ | exact bdNode2 _ _ _ _))) rfl rfl ?_
              refine GL.store_varN rfl rfl rfl (by (repeat (first | exact Pick.head | apply Pick.tail)); fail_if_success (focus skip)) (by rfl) (by rfl) (by rfl) ?_
              refine GL.nil ?_
              refine GE.seq ?_
              refine GC.ret ?_
              refine GE.seq_ret ?_
              refine GE.block_ret ?_
              refine GE.seq_ret ?_
              refine GE.loop_ret ?_
              refine GE.block_ret ?_
              refine GE.seq_ret ?_
              -- returns, path ffFTFT
              refine GE.state (fun _ hs => hs.empty partE none) ?_
              refine GE.ret_cell (L' := row partE none 0 [] :: L) (.inl rfl) rfl rfl rfl (BlkRd.of_pick (by (repeat (first | exact Pick.head | apply Pick.tail)); fail_if_success (focus skip))) (by rfl) (by first | exact Sub.refl | exact Sub.nil | (repeat (first | exact Sub.refl | exact Sub.nil | refine Sub.cons (by (repeat (first | exact Pick.head | apply Pick.tail)); fail_if_success (focus skip)) ?_ | refine Sub.drop ?_))) ?_
              rw [hg] at h5 h6
              rw [renL_no (fun h => by have := h.2.2.2 i hil h5; omega)]
              exact ⟨none, 0, rfl, rfl⟩
            · -- ffFTFF
              refine GC.skip ?_
              refine GE.seq ?_
              refine GC.region_tail 14 mixed (by kernel_rfl) ?_
              refine GS.val (by exact EvP.r (Ev.fieldAddr rfl)) rfl rfl ?_
              refine GS.val (by exact (by first | exact Ev.load_blk rfl rfl (BlkRd.of_pick (by (repeat (first | exact Pick.head | apply Pick.tail)); fail_if_success (focus skip))) Imp.refl (by rfl) | exact Ev.load_blk rfl rfl (by assumption) (by first | exact Imp.refl | exact Imp.nil | ((repeat (first | exact Imp.refl | refine Imp.cons ?_)); fail_if_success (focus skip))) (by rfl))) rfl rfl ?_
              refine GS.val (by exact EvP.r (Ev.move rfl)) rfl rfl ?_
              refine GS.val (by exact EvP.r (Ev.move rfl)) rfl rfl ?_
              refine GS.val (by exact EvP.r (Ev.fieldAddr rfl)) rfl rfl ?_
              refine GS.val (by exact (by first | exact Ev.load_blk rfl rfl (BlkRd.of_pick (by (repeat (first | exact Pick.head | apply Pick.tail)); fail_if_success (focus skip))) Imp.refl (by rfl) | exact Ev.load_blk rfl rfl (by assumption) (by first | exact Imp.refl | exact Imp.nil | ((repeat (first | exact Imp.refl | refine Imp.cons ?_)); fail_if_success (focus skip))) (by rfl))) rfl rfl ?_
              refine GS.val (by exact EvP.r (Ev.move rfl)) rfl rfl ?_
              refine GS.val (by exact (by first | exact Ev.index rfl rfl (by assumption) (by first | exact Imp.refl | exact Imp.nil | ((repeat (first | exact Imp.refl | refine Imp.cons ?_)); fail_if_success (focus skip))) (by first | rfl | exact (Int.toNat_of_nonneg (by omega)).symm) (by first | omega | (show 0 < _; omega) | (simp; omega)) (by first | exact Nat.le_refl _ | (simp; done) | omega | (simp; omega)) | exact Ev.index rfl rfl (Rd.of_pick (by (repeat (first | exact Pick.head | apply Pick.tail)); fail_if_success (focus skip))) Imp.refl (by first | rfl | exact (Int.toNat_of_nonneg (by omega)).symm) (by first | omega | (show 0 < _; omega) | (simp; omega)) (by first | exact Nat.le_refl _ | (simp; done) | omega | (simp; omega)))) rfl rfl ?_
              refine GS.val (by exact EvP.r (Ev.fieldAddr rfl)) rfl rfl ?_
              refine GS.val (by exact (by first | exact Ev.load_el_cell rfl (by assumption) (by first | exact Imp.refl | exact Imp.nil | ((repeat (first | exact Imp.refl | refine Imp.cons ?_)); fail_if_success (focus skip))) (List.getElem?_eq_getElem (by first | omega | (simp; done) | (simp; omega))) rfl | exact Ev.load_el_cell rfl (Rd.of_pick (by (repeat (first | exact Pick.head | apply Pick.tail)); fail_if_success (focus skip))) Imp.refl (List.getElem?_eq_getElem (by first | omega | (simp; done) | (simp; omega))) rfl)) rfl rfl ?_
              refine GS.val (by exact (by first | exact Ev.index rfl rfl (by assumption) (by first | exact Imp.refl | exact Imp.nil | ((repeat (first | exact Imp.refl | refine Imp.cons ?_)); fail_if_success (focus skip))) (by first | rfl | exact (Int.toNat_of_nonneg (by omega)).symm) (by first | omega | (show 0 < _; omega) | (simp; omega)) (by first | exact Nat.le_refl _ | (simp; done) | omega | (simp; omega)) | exact Ev.index rfl rfl (Rd.of_pick (by (repeat (first | exact Pick.head | apply Pick.tail)); fail_if_success (focus skip))) Imp.refl (by first | rfl | exact (Int.toNat_of_nonneg (by omega)).symm) (by first | omega | (show 0 < _; omega) | (simp; omega)) (by first | exact Nat.le_refl _ | (simp; done) | omega | (simp; omega)))) rfl rfl ?_
              refine GS.val (by exact (by first | exact Ev.load_el rfl (by assumption) (by first | exact Imp.refl | exact Imp.nil | ((repeat (first | exact Imp.refl | refine Imp.cons ?_)); fail_if_success (focus skip))) rfl rfl rfl (List.getElem?_eq_getElem (by first | omega | (simp; done) | (simp; omega))) | exact Ev.load_el rfl (Rd.of_pick (by (repeat (first | exact Pick.head | apply Pick.tail)); fail_if_success (focus skip))) Imp.refl rfl rfl rfl (List.getElem?_eq_getElem (by first | omega | (simp; done) | (simp; omega))))) rfl rfl ?_
              refine GS.val (by exact (by first | exact Ev.index rfl rfl (by assumption) (by first | exact Imp.refl | exact Imp.nil | ((repeat (first | exact Imp.refl | refine Imp.cons ?_)); fail_if_success (focus skip))) (by first | rfl | exact (Int.toNat_of_nonneg (by omega)).symm) (by first | omega | (show 0 < _; omega) | (simp; omega)) (by first | exact Nat.le_refl _ | (simp; done) | omega | (simp; omega)) | exact Ev.index rfl rfl (Rd.of_pick (by (repeat (first | exact Pick.head | apply Pick.tail)); fail_if_success (focus skip))) Imp.refl (by first | rfl | exact (Int.toNat_of_nonneg (by omega)).symm) (by first | omega | (show 0 < _; omega) | (simp; omega)) (by first | exact Nat.le_refl _ | (simp; done) | omega | (simp; omega)))) rfl rfl ?_
              refine GS.val (by exact EvP.r (Ev.fieldAddr rfl)) rfl rfl ?_
              refine GS.nil ?_
              refine GL.store_part rfl rfl (by (repeat (first | exact Pick.head | apply Pick.tail)); fail_if_success (focus skip)) (by first | omega | (simp; done) | (simp; omega)) rfl ?_
              refine GL.nil ?_
              refine GE.block ?_
              refine GE.seq ?_
              refine GC.region ?_
              refine GL.val (by exact EvP.r (Ev.move rfl)) rfl rfl ?_
              refine GL.val (by exact EvP.r (Ev.add rfl rfl (by omega))) rfl rfl ?_
              refine GL.val (by exact EvP.r (Ev.assign rfl)) rfl rfl ?_
              refine GL.nil ?_
              -- round of loop 1, path ffFTFF
              have e : (renUp to ps i).set i (Part.put (renUp to ps i)[i] 4 (to[((renUp to ps i)[i].n).toNat]'(by omega))) = renUp to ps (i + 1) := by
                rw [hg] at h5
                simp only [hg, at0_eq]
                exact renUp_put _ _ _ hil h5
              rw [e]
              rw [hg] at h5 h6
              refine GE.round (i + 1) ⟨by omega, fun j h h' hk => ?_⟩ (by omega) (by repeat (first | exact Keeps.nil | refine Keeps.cons rfl ?_)) (by first | exact Sub.refl | exact Sub.nil | (repeat (first | exact Sub.refl | exact Sub.nil | refine Sub.cons (by (repeat (first | exact Pick.head | apply Pick.tail)); fail_if_success (focus skip)) ?_ | refine Sub.drop ?_)))
              by_cases e : j = i
              · subst e; omega
              · exact hok j (by omega) h' hk
        · -- ffFF
          refine GC.exit ?_
          refine GE.seq_exit ?_
          refine GE.loop_exit ?_
          refine GE.block_exit ?_
          refine GE.seq ?_
          refine GC.seq ?_
          refine GC.region ?_
          refine GL.val (by exact (by first | exact Ev.load_blk_all rfl rfl (BlkRd.of_pick (by (repeat (first | exact Pick.head | apply Pick.tail)); fail_if_success (focus skip))) Imp.refl (by rfl) | exact Ev.load_blk_all rfl rfl (by assumption) (by first | exact Imp.refl | exact Imp.nil | ((repeat (first | exact Imp.refl | refine Imp.cons ?_)); fail_if_success (focus skip))) (by rfl))) rfl rfl ?_
          refine GL.store_varN rfl rfl rfl (by (repeat (first | exact Pick.head | apply Pick.tail)); fail_if_success (focus skip)) (by rfl) (by rfl) (by rfl) ?_
          refine GL.nil ?_
          refine GE.seq ?_
          refine GC.ret ?_
          -- returns, path ffFF
          have hie : i = ps.length := by omega
          subst hie
          rw [renUp_all]
          have hrk : RenOk ps to := ⟨hv, by omega, hto, fun j h => hok j h h⟩
          refine GE.ret_cell (L' := row partE A24 c24 (ps.map (renP to)) :: L) (.inl rfl) rfl rfl rfl (BlkRd.of_pick (by (repeat (first | exact Pick.head | apply Pick.tail)); fail_if_success (focus skip))) (by rfl) (by first | exact Sub.refl | exact Sub.nil | (repeat (first | exact Sub.refl | exact Sub.nil | refine Sub.cons (by (repeat (first | exact Pick.head | apply Pick.tail)); fail_if_success (focus skip)) ?_ | refine Sub.drop ?_))) ?_
          rw [renL_ok hrk]
          exact ⟨A24, c24, by rw [List.length_map], rfl⟩
end SG
