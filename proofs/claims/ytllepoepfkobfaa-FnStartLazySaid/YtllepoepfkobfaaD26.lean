/- Contracts: lists of lists: copies, comparisons, marks. -/
import Derived.Test.YtllepoepfkobfaaD9
import Derived.Test.YtllepoepfkobfaaD13
import Derived.Test.YtllepoepfkobfaaD23
import Derived.Test.YtllepoepfkobfaaD25
namespace SG
open Go Go.RowKit Go.Proofs
set_option linter.unusedVariables false
set_option linter.unusedSimpArgs false
set_option maxRecDepth 100000
theorem bsSl0 : BsOk Try.prog 60 0 [] slE [] := ⟨fun w => by kernel_rfl⟩
theorem bsSl1 (m : LiM) : BsOk Try.prog 60 1 [(0, .slice m.a m.xs.length m.c)] slE [m] := ⟨fun w => by kernel_rfl⟩
/-- a list of lists that can be read -/
structure RdLs (w0 : World) (L : List Asn) (A : Option Addr) (c : Nat) (ls : List LiM) : Prop where
  nodes : Rd w0 L slE A c ls
  lists : ∀ i (h : i < ls.length), Rd w0 L intE ls[i].a ls[i].c ls[i].xs
theorem RdLs.imp {w0 : World} {L L' : List Asn} {A : Option Addr} {c : Nat} {ls : List LiM} (h : RdLs w0 L' A c ls) (hi : Imp w0 L L') : RdLs w0 L A c ls := ⟨h.nodes.imp hi, fun i hl => (h.lists i hl).imp hi⟩
theorem RdLs.of_pick {w0 : World} {L L1 L2 : List Asn} {A : Option Addr} {c : Nat} {ls : List LiM} (p : Pick L (row slE A c ls) L1) (q : Pick L (rowsA ls) L2) : RdLs w0 L A c ls := ⟨Rd.of_pick p, fun i h => Rd.of_rows q (List.getElem_mem h)⟩
theorem RdLs.take {w0 : World} {L : List Asn} {A : Option Addr} {c : Nat} {ls : List LiM} (h : RdLs w0 L A c ls) (k : Nat) : RdLs w0 L A c (ls.take k) := ⟨h.nodes.take k, fun i hi => by
  have hl : i < ls.length := by rw [List.length_take] at hi; omega
  have := h.lists i hl
  rw [List.getElem_take]; exact this⟩
def SizeLs (ls : List LiM) : Prop := ls.length ≤ 1100000 ∧ ∀ i (h : i < ls.length), ls[i].xs.length ≤ 1100000
theorem li_eq_length {ls ms : List LiM} (h : li ls = li ms) : ls.length = ms.length := by rw [← li_length, h, li_length]
theorem li_eq_get {ls ms : List LiM} (h : li ls = li ms) {i : Nat} (hi : i < ls.length) (hj : i < ms.length) : ls[i].xs = ms[i].xs := by
  have h1 : (li ls)[i]'(by simpa using hi) = ls[i].xs := li_get _
  have h2 : (li ms)[i]'(by simpa using hj) = ms[i].xs := li_get _
  rw [← h1, ← h2]
  simp only [h]
theorem SizeLs.li {ls ms : List LiM} (hS : SizeLs ls) (h : li ms = li ls) : SizeLs ms := ⟨by rw [li_eq_length h]; exact hS.1, fun i hi => by
  have hj : i < ls.length := by rw [← li_eq_length h]; exact hi
  rw [li_eq_get h hi hj]; exact hS.2 i hj⟩
theorem SizeLs.small {ls : List LiM} (h : ls.length ≤ 10) (h' : ∀ l ∈ ls, l.xs.length ≤ 100) : SizeLs ls := ⟨by omega, fun i hi => by have := h' _ (List.getElem_mem hi); omega⟩
theorem li_take_succ {ls : List LiM} {i : Nat} (h : i < ls.length) : li (ls.take (i + 1)) = li (ls.take i) ++ [ls[i].xs] := by
  unfold SG.li
  rw [List.take_succ_eq_append_getElem h, List.map_append]; rfl
theorem li_append (ls ms : List LiM) : li (ls ++ ms) = li ls ++ li ms := by simp [li]
/-! copies -/
/-! comparisons -/
theorem eqIntSS_spec (w0 : World) (L : List Asn) (A : Option Addr) (c : Nat) (ls : List LiM) (hG : RdLs w0 L A c ls) (B : Option Addr) (d : Nat) (ms : List LiM) (hH : RdLs w0 L B d ms) (hS : SizeLs ls) :
    Tr Try.prog 83 #[.slice A ls.length c, .slice B ms.length d] w0 L (fun v L' => v = .bool (decide (li ls = li ms)) ∧ L' = L) := by
  have hN := hG.nodes
  have hM := hH.nodes
  have hSl := hS.1
  refine Tr.enter (args := [.slice A ls.length c, .slice B ms.length d]) Try.func83 Try.ntmps83 rfl rfl ?_
  refine GC.seq ?_
  refine GC.region ?_
  refine GL.v Wag ?_
  refine GL.nil ?_
  refine GE.seq ?_
  refine GC.seq ?_
  refine GC.seq ?_
  refine GC.region ?_
  refine GL.v Wmv ?_
  refine GL.v Wln ?_
  refine GL.v Wmv ?_
  refine GL.v Wln ?_
  refine GL.v Wnq ?_
  refine GL.nil ?_
  refine GE.seq ?_
  refine GC.ifs (fun h1 => ?_) (fun h1 => ?_)
  · -- T
    refine GC.seq ?_
    refine GC.region ?_
    refine GL.v Wag ?_
    refine GL.nil ?_
    refine GE.seq ?_
    refine GC.ret ?_
    refine GE.seq_ret ?_
    -- returns, path T
    refine GE.ret_tmp (L' := L) (.inl rfl) rfl rfl Wsb ?_
    exact ⟨by rw [decide_eq_false (fun e => h1 (by have := li_eq_length e; omega))], rfl⟩
  · -- F
    refine GC.skip ?_
    refine GE.seq ?_
    refine GC.seq ?_
    refine GC.seq ?_
    refine GC.region ?_
    refine GL.v Wag ?_
    refine GL.nil ?_
    refine GE.seq ?_
    refine GC.block ?_
    -- loop 1: carried slots [5]
    have hll : ls.length = ms.length := by omega
    refine GC.loopK (α := Nat) (fun i => i ≤ ls.length ∧ ∀ j (h : j < i) (h1 : j < ls.length) (h2 : j < ms.length), ls[j].xs = ms[j].xs) (fun i => [(5, .int .i64 i)]) [(0, _), (1, _)] (fun i => L) (fun i => ls.length - i) 0 Wkp Wsb ⟨Nat.zero_le _, fun _ h => by omega⟩ ?_
    rintro i ⟨hi, hok⟩
    refine GC.seq ?_
    refine GC.seq ?_
    refine GC.region ?_
    refine GL.v Wmv ?_
    refine GL.v Wmv ?_
    refine GL.v Wln ?_
    refine GL.v Wls ?_
    refine GL.nil ?_
    refine GE.seq ?_
    refine GC.ifs (fun h2 => ?_) (fun h2 => ?_)
    · -- FT
      have hil : i < ls.length := by omega
      have him : i < ms.length := by omega
      have hP := hG.lists i hil
      have hQ := hH.lists i him
      have hSi := hS.2 i hil
      refine GC.skip ?_
      refine GE.seq ?_
      refine GC.seq ?_
      refine GC.block ?_
      refine GC.seq ?_
      refine GC.region_quiet mixed (by kernel_rfl) ?_
      refine GL.v Wmv ?_
      refine GL.v Wmv ?_
      refine GL.v Wix ?_
      refine GL.v Wle ?_
      refine GL.v Wmv ?_
      refine GL.v Wmv ?_
      refine GL.v Wix ?_
      refine GL.v Wle ?_
      refine GL.callF rfl rfl (eqIntS_spec _ _ _ _ _ Wrd _ _ _ Wrd Wom) ?_
      refine GL.v Wnt ?_
      refine GL.nil ?_
      refine GE.seq ?_
      refine GC.ifs (fun h3 => ?_) (fun h3 => ?_)
      · -- FTT
        refine GC.seq ?_
        refine GC.region ?_
        refine GL.v Wag ?_
        refine GL.nil ?_
        refine GE.seq ?_
        refine GC.ret ?_
        refine GE.block_ret ?_
        refine GE.seq_ret ?_
        refine GE.loop_ret ?_
        refine GE.block_ret ?_
        refine GE.seq_ret ?_
        -- returns, path FTT
        refine GE.ret_tmp (L' := L) (.inl rfl) rfl rfl Wsb ?_
        exact ⟨by rw [decide_eq_false (fun e => h3 (li_eq_get e hil him))], rfl⟩
      · -- FTF
        refine GC.skip ?_
        refine GE.block ?_
        refine GE.seq ?_
        refine GC.region ?_
        refine GL.v Wmv ?_
        refine GL.v Wad ?_
        refine GL.v Wag ?_
        refine GL.nil ?_
        -- round of loop 1, path FTF
        refine GE.round (i + 1) ⟨by omega, fun j h h1 h2 => ?_⟩ (by omega) Wkp Wsb
        by_cases e : j = i
        · subst e; exact h3
        · exact hok j (by omega) h1 h2
    · -- FF
      refine GC.exit ?_
      refine GE.seq_exit ?_
      refine GE.loop_exit ?_
      refine GE.block_exit ?_
      refine GE.seq ?_
      refine GC.seq ?_
      refine GC.region ?_
      refine GL.v Wag ?_
      refine GL.nil ?_
      refine GE.seq ?_
      refine GC.ret ?_
      -- returns, path FF
      refine GE.ret_tmp (L' := L) (.inl rfl) rfl rfl Wsb ?_
      exact ⟨by rw [decide_eq_true (List.ext_getElem (by simp; omega) fun j h1 h2 => by rw [li_get, li_get]; exact hok j (by simp at h1; omega) _ _)], rfl⟩
theorem equalLists_spec (w0 : World) (L : List Asn) (A : Option Addr) (c : Nat) (ls : List LiM) (hG : RdLs w0 L A c ls) (B : Option Addr) (d : Nat) (ms : List LiM) (hH : RdLs w0 L B d ms) (hS : SizeLs ls) :
    Tr Try.prog 74 #[.slice A ls.length c, .slice B ms.length d] w0 L (fun v L' => v = .bool (decide (li ls = li ms)) ∧ L' = L) := by
  have hN := hG.nodes
  have hM := hH.nodes
  have hSl := hS.1
  refine Tr.enter (args := [.slice A ls.length c, .slice B ms.length d]) Try.func74 Try.ntmps74 rfl rfl ?_
  refine GC.seq ?_
  refine GC.region ?_
  refine GL.v Wag ?_
  refine GL.nil ?_
  refine GE.seq ?_
  refine GC.seq ?_
  refine GC.seq ?_
  refine GC.region ?_
  refine GL.v Wmv ?_
  refine GL.v Wln ?_
  refine GL.v Wmv ?_
  refine GL.v Wln ?_
  refine GL.v Wnq ?_
  refine GL.nil ?_
  refine GE.seq ?_
  refine GC.ifs (fun h1 => ?_) (fun h1 => ?_)
  · -- T
    refine GC.seq ?_
    refine GC.region ?_
    refine GL.v Wag ?_
    refine GL.nil ?_
    refine GE.seq ?_
    refine GC.ret ?_
    refine GE.seq_ret ?_
    -- returns, path T
    refine GE.ret_tmp (L' := L) (.inl rfl) rfl rfl Wsb ?_
    exact ⟨by rw [decide_eq_false (fun e => h1 (by have := li_eq_length e; omega))], rfl⟩
  · -- F
    refine GC.skip ?_
    refine GE.seq ?_
    refine GC.seq ?_
    refine GC.seq ?_
    refine GC.region ?_
    refine GL.v Wag ?_
    refine GL.nil ?_
    refine GE.seq ?_
    refine GC.block ?_
    -- loop 1: carried slots [5]
    have hll : ls.length = ms.length := by omega
    refine GC.loopK (α := Nat) (fun i => i ≤ ls.length ∧ ∀ j (h : j < i) (h1 : j < ls.length) (h2 : j < ms.length), ls[j].xs = ms[j].xs) (fun i => [(5, .int .i64 i)]) [(0, _), (1, _)] (fun i => L) (fun i => ls.length - i) 0 Wkp Wsb ⟨Nat.zero_le _, fun _ h => by omega⟩ ?_
    rintro i ⟨hi, hok⟩
    refine GC.seq ?_
    refine GC.seq ?_
    refine GC.region ?_
    refine GL.v Wmv ?_
    refine GL.v Wmv ?_
    refine GL.v Wln ?_
    refine GL.v Wls ?_
    refine GL.nil ?_
    refine GE.seq ?_
    refine GC.ifs (fun h2 => ?_) (fun h2 => ?_)
    · -- FT
      have hil : i < ls.length := by omega
      have him : i < ms.length := by omega
      have hP := hG.lists i hil
      have hQ := hH.lists i him
      have hSi := hS.2 i hil
      refine GC.skip ?_
      refine GE.seq ?_
      refine GC.seq ?_
      refine GC.block ?_
      refine GC.seq ?_
      refine GC.region_quiet mixed (by kernel_rfl) ?_
      refine GL.v Wmv ?_
      refine GL.v Wmv ?_
      refine GL.v Wix ?_
      refine GL.v Wle ?_
      refine GL.v Wmv ?_
      refine GL.v Wmv ?_
      refine GL.v Wix ?_
      refine GL.v Wle ?_
      refine GL.callF rfl rfl (equalInts_spec _ _ _ _ _ Wrd _ _ _ Wrd Wom) ?_
      refine GL.v Wnt ?_
      refine GL.nil ?_
      refine GE.seq ?_
      refine GC.ifs (fun h3 => ?_) (fun h3 => ?_)
      · -- FTT
        refine GC.seq ?_
        refine GC.region ?_
        refine GL.v Wag ?_
        refine GL.nil ?_
        refine GE.seq ?_
        refine GC.ret ?_
        refine GE.block_ret ?_
        refine GE.seq_ret ?_
        refine GE.loop_ret ?_
        refine GE.block_ret ?_
        refine GE.seq_ret ?_
        -- returns, path FTT
        refine GE.ret_tmp (L' := L) (.inl rfl) rfl rfl Wsb ?_
        exact ⟨by rw [decide_eq_false (fun e => h3 (li_eq_get e hil him))], rfl⟩
      · -- FTF
        refine GC.skip ?_
        refine GE.block ?_
        refine GE.seq ?_
        refine GC.region ?_
        refine GL.v Wmv ?_
        refine GL.v Wad ?_
        refine GL.v Wag ?_
        refine GL.nil ?_
        -- round of loop 1, path FTF
        refine GE.round (i + 1) ⟨by omega, fun j h h1 h2 => ?_⟩ (by omega) Wkp Wsb
        by_cases e : j = i
        · subst e; exact h3
        · exact hok j (by omega) h1 h2
    · -- FF
      refine GC.exit ?_
      refine GE.seq_exit ?_
      refine GE.loop_exit ?_
      refine GE.block_exit ?_
      refine GE.seq ?_
      refine GC.seq ?_
      refine GC.region ?_
      refine GL.v Wag ?_
      refine GL.nil ?_
      refine GE.seq ?_
      refine GC.ret ?_
      -- returns, path FF
      refine GE.ret_tmp (L' := L) (.inl rfl) rfl rfl Wsb ?_
      exact ⟨by rw [decide_eq_true (List.ext_getElem (by simp; omega) fun j h1 h2 => by rw [li_get, li_get]; exact hok j (by simp at h1; omega) _ _)], rfl⟩
end SG
