/- Contracts: the program's value of a formula, and what it reads. -/
import Derived.Test.YtphapjfhcbledaaD11
import Derived.Test.YtphapjfhcbledaaPlain3
namespace SG
open Go Go.RowKit Go.Proofs
set_option linter.unusedVariables false
set_option linter.unusedSimpArgs false
set_option maxRecDepth 100000
instance : TyOk Try.prog 72 false 1 [.nilFunc] := ⟨by kernel_rfl, by kernel_rfl⟩
theorem Index_spec (w0 : World) (L : List Asn) (A : Option Addr) (c : Nat) (xs : List Int) (hX : Rd w0 L intE A c xs) (hl : xs.length ≤ 1100000) (n : Int) :
    Tr Try.prog 92 #[.slice A xs.length c, .int .i64 n] w0 L (fun v L' => ∃ k : Int, v = .int .i64 k ∧ (0 ≤ k ↔ xs.contains n = true) ∧ L' = L) := by
  refine Tr.enter (args := [.slice A xs.length c, .int .i64 n]) Try.func92 Try.ntmps92 rfl rfl ?_
  refine GC.seq ?_
  refine GC.region ?_
  refine GL.v Wag ?_
  refine GL.nil ?_
  refine GE.seq ?_
  refine GC.seq ?_
  refine GC.seq ?_
  refine GC.region ?_
  refine GL.v Wmv ?_
  refine GL.v Wln ?_
  refine GL.v Wmv ?_
  refine GL.nil ?_
  refine GE.seq ?_
  refine GC.block ?_
  -- loop 1: carried slots [8]
  refine GC.loopK (α := Nat) (fun i => i ≤ xs.length ∧ ∀ j (h : j < i) (h' : j < xs.length), n ≠ xs[j]) (fun i => [(8, .int .i64 i)]) [(0, _), (1, _), (7, _)] (fun i => L) (fun i => xs.length - i) 0 Wkp Wsb ⟨Nat.zero_le _, fun _ h => by omega⟩ ?_
  rintro i ⟨hi, hno⟩
  refine GC.seq ?_
  refine GC.region ?_
  refine GL.v Wls ?_
  refine GL.nil ?_
  refine GE.seq ?_
  refine GC.seq ?_
  refine GC.ifs (fun h1 => ?_) (fun h1 => ?_)
  · -- T
    have hil : i < xs.length := by omega
    refine GC.skip ?_
    refine GE.seq ?_
    refine GC.seq ?_
    refine GC.block ?_
    refine GC.seq ?_
    refine GC.region ?_
    refine GL.v Wmv ?_
    refine GL.v Wag ?_
    refine GL.nil ?_
    refine GE.seq ?_
    refine GC.seq ?_
    refine GC.region ?_
    refine GL.v Wmv ?_
    refine GL.v Wmv ?_
    refine GL.v Wmv ?_
    refine GL.v Wix ?_
    refine GL.v Wle ?_
    refine GL.v Weq ?_
    refine GL.nil ?_
    refine GE.seq ?_
    refine GC.ifs (fun h2 => ?_) (fun h2 => ?_)
    · -- TT
      refine GC.seq ?_
      refine GC.region ?_
      refine GL.v Wmv ?_
      refine GL.v Wag ?_
      refine GL.nil ?_
      refine GE.seq ?_
      refine GC.ret ?_
      refine GE.block_ret ?_
      refine GE.seq_ret ?_
      refine GE.loop_ret ?_
      refine GE.block_ret ?_
      refine GE.seq_ret ?_
      -- returns, path TT
      refine GE.ret_tmp (L' := L) (.inl rfl) rfl rfl Wsb ?_
      exact ⟨_, rfl, ⟨fun _ => by rw [h2]; simp, fun _ => by omega⟩, rfl⟩
    · -- TF
      refine GC.skip ?_
      refine GE.block ?_
      refine GE.seq ?_
      refine GC.region ?_
      refine GL.v Wad ?_
      refine GL.v Wmv ?_
      refine GL.nil ?_
      -- round of loop 1, path TF
      refine GE.round (i + 1) ⟨by omega, fun j h h' => ?_⟩ (by omega) Wkp Wsb
      by_cases e : j = i
      · subst e; exact h2
      · exact hno j (by omega) h'
  · -- F
    refine GC.exit ?_
    refine GE.seq_exit ?_
    refine GE.loop_exit ?_
    refine GE.block_exit ?_
    refine GE.seq ?_
    refine GC.seq ?_
    refine GC.region ?_
    refine GL.v Wag ?_
    refine GL.nil ?_
    refine GE.seq ?_
    refine GC.ret ?_
    -- returns, path F
    refine GE.ret_tmp (L' := L) (.inl rfl) rfl rfl Wsb ?_
    refine ⟨-1, rfl, ⟨fun h => by omega, fun h => ?_⟩, rfl⟩
    obtain ⟨j, hj, e⟩ := List.mem_iff_getElem.1 (show n ∈ xs by simpa using h)
    exact absurd e.symm (hno j (by omega) hj)
theorem Contains_spec (w0 : World) (L : List Asn) (A : Option Addr) (c : Nat) (xs : List Int) (hX : Rd w0 L intE A c xs) (hl : xs.length ≤ 1100000) (n : Int) :
    Tr Try.prog 78 #[.slice A xs.length c, .int .i64 n] w0 L (fun v L' => v = .bool (xs.contains n) ∧ L' = L) := by
  refine Tr.enter (args := [.slice A xs.length c, .int .i64 n]) Try.func78 Try.ntmps78 rfl rfl ?_
  refine GC.seq ?_
  refine GC.region ?_
  refine GL.v Wag ?_
  refine GL.nil ?_
  refine GE.seq ?_
  refine GC.seq ?_
  refine GC.region ?_
  refine GL.v Wmv ?_
  refine GL.v Wmv ?_
  refine GL.call rfl rfl (Index_spec _ _ _ _ _ Wrd Wom _) ?_
  rintro _ _ ⟨k7, rfl, hk7, e7⟩
  rw [e7]; clear e7
  refine GL.v Wgq ?_
  refine GL.v Wag ?_
  refine GL.nil ?_
  refine GE.seq ?_
  refine GC.ret ?_
  -- returns, path 
  refine GE.ret_tmp (L' := L) (.inl rfl) rfl rfl Wsb ?_
  refine ⟨?_, rfl⟩
  cases ha : xs.contains n with
  | true => rw [decide_eq_true (hk7.2 ha)]
  | false => rw [decide_eq_false (fun h => by rw [hk7.1 h] at ha; cases ha)]
/-- the reader of nodes: the list so far in a variable -/
def rdsA (g : Nat) (A : Option Addr) (c : Nat) (rs : List Int) : List Asn := [blk g 27 [.slice A rs.length c], row intE A c rs]
/-- what a function that reads nodes does, wherever the state leads to L -/
def ReadsBy (F : FuncId) (first captured : Array Value) (g : Nat) (w0 : World) (L : List Asn) (ok : Int → Prop) (vals : Int → Int) : Prop :=
  ∀ X, Imp w0 X L → ∀ (rs : List Int) (A : Option Addr) (c : Nat) (n : Int), ok n → rs.length ≤ 10000 →
    Tr Try.prog F (first ++ #[.int .i64 n] ++ captured) w0 (blk g 27 [.slice A rs.length c] :: row intE A c rs :: X) (fun v L' => v = .int .i64 (vals n) ∧ ∃ A' c', L' = blk g 27 [.slice A' (addR rs n).length c'] :: row intE A' c' (addR rs n) :: X)
theorem ReadsBy.imp {F : FuncId} {first captured : Array Value} {g : Nat} {w0 : World} {L L1 : List Asn} {ok : Int → Prop} {vals : Int → Int} (h : ReadsBy F first captured g w0 L ok vals) (hi : Imp w0 L1 L) : ReadsBy F first captured g w0 L1 ok vals := fun X hX => h X (hX.trans hi)
end SG
