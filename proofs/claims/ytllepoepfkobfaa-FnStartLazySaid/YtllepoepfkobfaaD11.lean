/- Contracts: copies, searches by a function, MayRead and RenameReads of the program. -/
import Derived.Test.YtllepoepfkobfaaDA
import Derived.Test.YtllepoepfkobfaaOp6
namespace SG
open Go Go.RowKit Go.Proofs
set_option linter.unusedVariables false
set_option linter.unusedSimpArgs false
set_option maxRecDepth 100000
theorem Rd.of_none {w0 : World} {L : List Asn} {α : Type} {E : El α} {A : Option Addr} {c : Nat} {xs : List α} (h : Rd w0 L E A c xs) (hA : A.isNone = true) (w : World) (hs : St w0 w L) : xs = [] := by
  cases xs with
  | nil => rfl
  | cons x xs =>
    obtain ⟨ad, rfl, _⟩ := (h.go w hs).2.2 0 x rfl
    cases hA
/-- what a function of a number answers, wherever the state leads to L -/
def Answers (F : FuncId) (first captured : Array Value) (w0 : World) (L : List Asn) (xs : List Int) (q : Int → Bool) : Prop :=
  ∀ L1, Imp w0 L1 L → ∀ x ∈ xs, Tr Try.prog F (first ++ #[.int .i64 x] ++ captured) w0 L1 (fun v L' => v = .bool (q x) ∧ L' = L1)
theorem Answers.imp {F : FuncId} {first captured : Array Value} {w0 : World} {L L1 : List Asn} {xs : List Int} {q : Int → Bool} (h : Answers F first captured w0 L xs q) (hi : Imp w0 L1 L) : Answers F first captured w0 L1 xs q := fun L2 h2 x hx => h L2 (h2.trans hi) x hx
theorem IndexFunc_spec (w0 : World) (L : List Asn) (A : Option Addr) (c : Nat) (xs : List Int) (hX : Rd w0 L intE A c xs) (hl : xs.length ≤ 1100000) (F : FuncId) [FnOk Try.prog F] (first captured : Array Value) (q : Int → Bool) (hq : Answers F first captured w0 L xs q) :
    Tr Try.prog 125 #[.slice A xs.length c, .func (.func F) first captured] w0 L (fun v L' => ∃ k : Int, v = .int .i64 k ∧ (0 ≤ k ↔ xs.any q = true) ∧ L' = L) := by
  refine Tr.enter (args := [.slice A xs.length c, .func (.func F) first captured]) Try.func125 Try.ntmps125 rfl rfl ?_
  refine GC.seq ?_
  refine GC.region ?_
  refine GL.v Wag ?_
  refine GL.nil ?_
  refine GE.seq ?_
  refine GC.seq ?_
  refine GC.seq ?_
  refine GC.region ?_
  refine GL.v Wmv ?_
  refine GL.v Wln ?_
  refine GL.v Wmv ?_
  refine GL.nil ?_
  refine GE.seq ?_
  refine GC.block ?_
  -- loop 1: carried slots [8]
  refine GC.loopK (α := Nat) (fun i => i ≤ xs.length ∧ ∀ j (h : j < i) (h' : j < xs.length), q xs[j] = false) (fun i => [(8, .int .i64 i)]) [(0, _), (1, _), (7, _)] (fun i => L) (fun i => xs.length - i) 0 Wkp Wsb ⟨Nat.zero_le _, fun _ h => by omega⟩ ?_
  rintro i ⟨hi, hno⟩
  refine GC.seq ?_
  refine GC.region ?_
  refine GL.v Wls ?_
  refine GL.nil ?_
  refine GE.seq ?_
  refine GC.seq ?_
  refine GC.ifs (fun h1 => ?_) (fun h1 => ?_)
  · -- T
    have hil : i < xs.length := by omega
    refine GC.skip ?_
    refine GE.seq ?_
    refine GC.seq ?_
    refine GC.block ?_
    refine GC.seq ?_
    refine GC.region ?_
    refine GL.v Wmv ?_
    refine GL.v Wag ?_
    refine GL.nil ?_
    refine GE.seq ?_
    refine GC.seq ?_
    refine GC.region ?_
    refine GL.v Wmv ?_
    refine GL.v Wmv ?_
    refine GL.v Wmv ?_
    refine GL.v Wix ?_
    refine GL.v Wle ?_
    refine GL.callQ rfl rfl rfl (hq _ Imp.refl _ (List.getElem_mem hil)) ?_
    refine GL.nil ?_
    refine GE.seq ?_
    refine GC.ifs (fun h2 => ?_) (fun h2 => ?_)
    · -- TT
      refine GC.seq ?_
      refine GC.region ?_
      refine GL.v Wmv ?_
      refine GL.v Wag ?_
      refine GL.nil ?_
      refine GE.seq ?_
      refine GC.ret ?_
      refine GE.block_ret ?_
      refine GE.seq_ret ?_
      refine GE.loop_ret ?_
      refine GE.block_ret ?_
      refine GE.seq_ret ?_
      -- returns, path TT
      refine GE.ret_tmp (L' := L) (.inl rfl) rfl rfl Wsb ?_
      exact ⟨_, rfl, ⟨fun _ => List.any_eq_true.2 ⟨_, List.getElem_mem hil, h2⟩, fun _ => by omega⟩, rfl⟩
    · -- TF
      refine GC.skip ?_
      refine GE.block ?_
      refine GE.seq ?_
      refine GC.region ?_
      refine GL.v Wad ?_
      refine GL.v Wmv ?_
      refine GL.nil ?_
      -- round of loop 1, path TF
      refine GE.round (i + 1) ⟨by omega, fun j h h' => ?_⟩ (by omega) Wkp Wsb
      by_cases e : j = i
      · subst e; exact h2
      · exact hno j (by omega) h'
  · -- F
    refine GC.exit ?_
    refine GE.seq_exit ?_
    refine GE.loop_exit ?_
    refine GE.block_exit ?_
    refine GE.seq ?_
    refine GC.seq ?_
    refine GC.region ?_
    refine GL.v Wag ?_
    refine GL.nil ?_
    refine GE.seq ?_
    refine GC.ret ?_
    -- returns, path F
    refine GE.ret_tmp (L' := L) (.inl rfl) rfl rfl Wsb ?_
    refine ⟨-1, rfl, ⟨fun h => by omega, fun h => ?_⟩, rfl⟩
    obtain ⟨x, hx, hqx⟩ := List.any_eq_true.1 h
    obtain ⟨j, hj, rfl⟩ := List.mem_iff_getElem.1 hx
    rw [hno j (by omega) hj] at hqx
    cases hqx
theorem ContainsFunc_spec (w0 : World) (L : List Asn) (A : Option Addr) (c : Nat) (xs : List Int) (hX : Rd w0 L intE A c xs) (hl : xs.length ≤ 1100000) (F : FuncId) [FnOk Try.prog F] (first captured : Array Value) (q : Int → Bool) (hq : Answers F first captured w0 L xs q) :
    Tr Try.prog 102 #[.slice A xs.length c, .func (.func F) first captured] w0 L (fun v L' => v = .bool (xs.any q) ∧ L' = L) := by
  refine Tr.enter (args := [.slice A xs.length c, .func (.func F) first captured]) Try.func102 Try.ntmps102 rfl rfl ?_
  refine GC.seq ?_
  refine GC.region ?_
  refine GL.v Wag ?_
  refine GL.nil ?_
  refine GE.seq ?_
  refine GC.seq ?_
  refine GC.region ?_
  refine GL.v Wmv ?_
  refine GL.v Wmv ?_
  refine GL.call rfl rfl (IndexFunc_spec _ _ _ _ _ hX hl _ _ _ _ hq) ?_
  rintro _ _ ⟨k, rfl, hk, e⟩
  rw [e]; clear e
  refine GL.v Wgq ?_
  refine GL.v Wag ?_
  refine GL.nil ?_
  refine GE.seq ?_
  refine GC.ret ?_
  -- returns, path 
  refine GE.ret_tmp (L' := L) (.inl rfl) rfl rfl Wsb ?_
  refine ⟨?_, rfl⟩
  cases ha : xs.any q with
  | true => rw [decide_eq_true (hk.2 ha)]
  | false => rw [decide_eq_false (fun h => by rw [hk.1 h] at ha; cases ha)]
theorem any_not_in {xs : List Int} {lo hi : Int} : (xs.any fun x => !inB x lo hi) = false ↔ ∀ x ∈ xs, lo ≤ x ∧ x ≤ hi := by
  rw [List.any_eq_false]
  constructor
  · intro h x hx
    have := h x hx
    exact inB_iff.1 (by simpa using this)
  · intro h x hx
    rw [inB_iff.2 (h x hx)]; simp
end SG
