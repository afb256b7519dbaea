/- Contracts: the exact laws' copies and comparisons of numbers. -/
import Derived.Test.YtllepoepfkobfaaD4
namespace SG
open Go Go.RowKit Go.Proofs
set_option linter.unusedVariables false
set_option linter.unusedSimpArgs false
set_option maxRecDepth 100000
theorem toIntS_spec (w0 : World) (L : List Asn) (A : Option Addr) (c : Nat) (xs : List Int) (hR : Rd w0 L intE A c xs) (hl : xs.length ≤ 1100000) :
    Tr Try.prog 30 #[.slice A xs.length c] w0 L (fun v L' => ∃ B, v = .slice B xs.length xs.length ∧ L' = row intE B xs.length xs :: L) := by
  refine Tr.enter (args := [.slice A xs.length c]) Try.func30 Try.ntmps30 rfl rfl ?_
  refine GC.seq ?_
  refine GC.region ?_
  refine GL.v Wag ?_
  refine GL.nil ?_
  refine GE.seq ?_
  refine GC.seq ?_
  refine GC.region ?_
  refine GL.v Wmv ?_
  refine GL.v Wln ?_
  refine GL.make rfl rfl Wik Wik (by omega) (by omega) rfl ?_; intro g7
  refine GL.v Wag ?_
  refine GL.nil ?_
  refine GE.seq ?_
  refine GC.seq ?_
  refine GC.seq ?_
  refine GC.region ?_
  refine GL.v Wag ?_
  refine GL.nil ?_
  refine GE.seq ?_
  refine GC.block ?_
  -- loop 1: carried slots [4]
  refine GC.loopK (α := Nat) (fun i => i ≤ xs.length) (fun i => [(4, .int .i64 i)]) [(0, _), (3, _)] (fun i => row intE (some ⟨g7, 0, none⟩) xs.length (xs.take i ++ List.replicate (xs.length - i) 0) :: L) (fun i => xs.length - i) 0 Wkp Wsb (Nat.zero_le _) ?_
  rintro i hi
  have hfl := fill_len xs 0 i _ rfl hi
  refine GC.seq ?_
  refine GC.seq ?_
  refine GC.region ?_
  refine GL.v Wmv ?_
  refine GL.v Wmv ?_
  refine GL.v Wln ?_
  refine GL.v Wls ?_
  refine GL.nil ?_
  refine GE.seq ?_
  refine GC.ifs (fun h1 => ?_) (fun h1 => ?_)
  · -- T
    have hil : i < xs.length := by omega
    refine GC.skip ?_
    refine GE.seq ?_
    refine GC.seq ?_
    refine GC.block ?_
    refine GC.region ?_
    refine GL.v Wmv ?_
    refine GL.v Wmv ?_
    refine GL.v Wmv ?_
    refine GL.v Wmv ?_
    refine GL.v Wix ?_
    refine GL.v Wle ?_
    refine GL.v Wix ?_
    refine GL.store_el rfl rfl Wpk rfl rfl rfl (by first | omega | (simp; done) | (simp; omega)) ?_
    refine GL.nil ?_
    refine GE.block ?_
    refine GE.seq ?_
    refine GC.region ?_
    refine GL.v Wmv ?_
    refine GL.v Wad ?_
    refine GL.v Wag ?_
    refine GL.nil ?_
    -- round of loop 1, path T
    rw [fill_set xs _ i _ rfl hil]
    refine GE.round (i + 1) (by omega) (by omega) Wkp Wsb
  · -- F
    have hie : i = xs.length := by omega
    subst hie
    rw [List.take_length, Nat.sub_self, List.replicate_zero, List.append_nil]
    refine GC.exit ?_
    refine GE.seq_exit ?_
    refine GE.loop_exit ?_
    refine GE.block_exit ?_
    refine GE.seq ?_
    refine GC.seq ?_
    refine GC.region ?_
    refine GL.v Wmv ?_
    refine GL.v Wag ?_
    refine GL.nil ?_
    refine GE.seq ?_
    refine GC.ret ?_
    -- returns, path F
    refine GE.ret_tmp (L' := row intE (some ⟨g7, 0, none⟩) xs.length xs :: L) (.inl rfl) rfl rfl Wsb ?_
    exact ⟨_, rfl, rfl⟩
theorem eqIntS_spec (w0 : World) (L : List Asn) (A : Option Addr) (c : Nat) (xs : List Int) (hR : Rd w0 L intE A c xs) (B : Option Addr) (d : Nat) (ys : List Int) (hR' : Rd w0 L intE B d ys) (hl : xs.length ≤ 1100000) :
    Tr Try.prog 31 #[.slice A xs.length c, .slice B ys.length d] w0 L (fun v L' => v = .bool (decide (xs = ys)) ∧ L' = L) := by
  refine Tr.enter (args := [.slice A xs.length c, .slice B ys.length d]) Try.func31 Try.ntmps31 rfl rfl ?_
  refine GC.seq ?_
  refine GC.region ?_
  refine GL.v Wag ?_
  refine GL.nil ?_
  refine GE.seq ?_
  refine GC.seq ?_
  refine GC.seq ?_
  refine GC.region ?_
  refine GL.v Wmv ?_
  refine GL.v Wln ?_
  refine GL.v Wmv ?_
  refine GL.v Wln ?_
  refine GL.v Wnq ?_
  refine GL.nil ?_
  refine GE.seq ?_
  refine GC.ifs (fun h1 => ?_) (fun h1 => ?_)
  · -- T
    refine GC.seq ?_
    refine GC.region ?_
    refine GL.v Wag ?_
    refine GL.nil ?_
    refine GE.seq ?_
    refine GC.ret ?_
    refine GE.seq_ret ?_
    -- returns, path T
    refine GE.ret_tmp (L' := L) (.inl rfl) rfl rfl Wsb ?_
    exact ⟨by rw [decide_eq_false (fun e => h1 (by rw [e]))], rfl⟩
  · -- F
    refine GC.skip ?_
    refine GE.seq ?_
    refine GC.seq ?_
    refine GC.seq ?_
    refine GC.region ?_
    refine GL.v Wag ?_
    refine GL.nil ?_
    refine GE.seq ?_
    refine GC.block ?_
    -- loop 1: carried slots [5]
    have hll : xs.length = ys.length := by omega
    refine GC.loopK (α := Nat) (fun i => i ≤ xs.length ∧ xs.take i = ys.take i) (fun i => [(5, .int .i64 i)]) [(0, _), (1, _)] (fun i => L) (fun i => xs.length - i) 0 Wkp Wsb ⟨Nat.zero_le _, rfl⟩ ?_
    rintro i ⟨hi, hte⟩
    refine GC.seq ?_
    refine GC.seq ?_
    refine GC.region ?_
    refine GL.v Wmv ?_
    refine GL.v Wmv ?_
    refine GL.v Wln ?_
    refine GL.v Wls ?_
    refine GL.nil ?_
    refine GE.seq ?_
    refine GC.ifs (fun h2 => ?_) (fun h2 => ?_)
    · -- FT
      have hil : i < xs.length := by omega
      refine GC.skip ?_
      refine GE.seq ?_
      refine GC.seq ?_
      refine GC.block ?_
      refine GC.seq ?_
      refine GC.region_quiet mixed (by kernel_rfl) ?_
      refine GL.v Wmv ?_
      refine GL.v Wmv ?_
      refine GL.v Wix ?_
      refine GL.v Wle ?_
      refine GL.v Wmv ?_
      refine GL.v Wmv ?_
      refine GL.v Wix ?_
      refine GL.v Wle ?_
      refine GL.v Wnq ?_
      refine GL.nil ?_
      refine GE.seq ?_
      refine GC.ifs (fun h3 => ?_) (fun h3 => ?_)
      · -- FTT
        refine GC.seq ?_
        refine GC.region ?_
        refine GL.v Wag ?_
        refine GL.nil ?_
        refine GE.seq ?_
        refine GC.ret ?_
        refine GE.block_ret ?_
        refine GE.seq_ret ?_
        refine GE.loop_ret ?_
        refine GE.block_ret ?_
        refine GE.seq_ret ?_
        -- returns, path FTT
        refine GE.ret_tmp (L' := L) (.inl rfl) rfl rfl Wsb ?_
        exact ⟨by rw [decide_eq_false (fun e => h3 (get_of_eq e hil (by omega)))], rfl⟩
      · -- FTF
        refine GC.skip ?_
        refine GE.block ?_
        refine GE.seq ?_
        refine GC.region ?_
        refine GL.v Wmv ?_
        refine GL.v Wad ?_
        refine GL.v Wag ?_
        refine GL.nil ?_
        -- round of loop 1, path FTF
        refine GE.round (i + 1) ⟨by omega, take_eq_succ hte hil (by omega) h3⟩ (by omega) Wkp Wsb
    · -- FF
      refine GC.exit ?_
      refine GE.seq_exit ?_
      refine GE.loop_exit ?_
      refine GE.block_exit ?_
      refine GE.seq ?_
      refine GC.seq ?_
      refine GC.region ?_
      refine GL.v Wag ?_
      refine GL.nil ?_
      refine GE.seq ?_
      refine GC.ret ?_
      -- returns, path FF
      refine GE.ret_tmp (L' := L) (.inl rfl) rfl rfl Wsb ?_
      have hie : i = xs.length := by omega
      subst hie
      rw [List.take_length, hll, List.take_length] at hte
      exact ⟨by rw [decide_eq_true hte], rfl⟩
end SG
