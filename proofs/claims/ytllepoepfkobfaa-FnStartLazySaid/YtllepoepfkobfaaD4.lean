/- Contracts: the copies and comparisons of the exact laws. -/
import Derived.Test.YtllepoepfkobfaaOpen
namespace SG
open Go Go.RowKit Go.Proofs
set_option linter.unusedVariables false
set_option linter.unusedSimpArgs false
set_option maxRecDepth 100000

/-! many rows as one assertion -/
def NdM.rowA (m : NdM) : Asn := row partE m.a m.c m.parts
def partsA (ms : List NdM) : Asn := Sat (ms.map NdM.rowA)
theorem St.sat0 {w0 w : World} {L : List Asn} (h : St w0 w L) : St w0 w (Sat [] :: L) := St.fold (L' := []) h
theorem St.partsA_nil {w0 w : World} {L : List Asn} (h : St w0 w L) : St w0 w (partsA [] :: L) := h.sat0
theorem Pick.app_right {L L1 : List Asn} {A : Asn} (p : Pick L A L1) : ∀ (X : List Asn), Pick (X ++ L) A (X ++ L1)
  | [] => p
  | _ :: X => .tail (p.app_right X)
theorem Pick.app_left {L L1 X : List Asn} {A : Asn} (p : Pick L A L1) : Pick (L ++ X) A (L1 ++ X) := by
  induction p with
  | head => exact .head
  | tail _ ih => exact .tail ih
theorem Pick.mem {L : List Asn} {A : Asn} (h : A ∈ L) : ∃ L1, Pick L A L1 := by
  induction L with
  | nil => cases h
  | cons B L ih =>
    rcases List.mem_cons.1 h with rfl | h
    · exact ⟨L, .head⟩
    · obtain ⟨L1, p⟩ := ih h; exact ⟨_, .tail p⟩
theorem St.sat_snoc {w0 w : World} {L X : List Asn} {A : Asn} (h : St w0 w (A :: Sat X :: L)) : St w0 w (Sat (X ++ [A]) :: L) := by
  have h1 : St w0 w (Sat X :: A :: L) := h.pick (.tail .head)
  have h1 := h1.flat
  refine St.fold ?_
  rw [List.append_assoc]
  exact h1
theorem St.parts_snoc {w0 w : World} {L : List Asn} {ms : List NdM} {m : NdM} (h : St w0 w (m.rowA :: partsA ms :: L)) : St w0 w (partsA (ms ++ [m]) :: L) := by
  have := h.sat_snoc
  unfold partsA
  rw [List.map_append]
  exact this
theorem Rd.of_parts {w0 : World} {L L1 : List Asn} {ms : List NdM} (p : Pick L (partsA ms) L1) {m : NdM} (hm : m ∈ ms) : Rd w0 L partE m.a m.c m.parts := ⟨fun w hs => by
  have h := (hs.pick p).flat
  obtain ⟨L2, p2⟩ := Pick.mem (List.mem_map_of_mem (f := NdM.rowA) hm)
  exact (Rd.of_pick (p2.app_left (X := L1))).go w h⟩
theorem RdG.of_pick {w0 : World} {L L1 L2 : List Asn} {A : Option Addr} {c : Nat} {ms : List NdM} (p : Pick L (row nodeE A c ms) L1) (q : Pick L (partsA ms) L2) : RdG w0 L A c ms :=
  ⟨Rd.of_pick p, fun i h => Rd.of_parts q (List.getElem_mem h)⟩

theorem fill_set {α : Type} (xs : List α) (z : α) (i n : Nat) (hn : n = xs.length) (h : i < xs.length) : (xs.take i ++ List.replicate (n - i) z).set i xs[i] = xs.take (i + 1) ++ List.replicate (n - (i + 1)) z := by
  subst hn
  have e : xs.length - i = (xs.length - (i + 1)) + 1 := by omega
  rw [e, List.replicate_succ, List.take_succ_eq_append_getElem h, List.set_append, if_neg (by simp; omega)]
  have : i - (xs.take i).length = 0 := by simp; omega
  rw [this, List.append_assoc]
  rfl
theorem fill_len {α : Type} (xs : List α) (z : α) (i n : Nat) (hn : n = xs.length) (h : i ≤ xs.length) : (xs.take i ++ List.replicate (n - i) z).length = xs.length := by simp; omega

theorem szPartS_spec (w0 : World) (L : List Asn) (A : Option Addr) (n c : Nat) (left : Int) (hn : n ≤ 9223372036854775807) (l0 : 0 ≤ left) (l1 : left ≤ 1048576) :
    Tr Try.prog 132 #[.slice A n c, .int .i64 left] w0 L (fun v L' => v = .int .i64 (if left - n < 0 then -1 else left - n) ∧ L' = L) := by
  refine Tr.enter (args := [.slice A n c, .int .i64 left]) Try.func132 Try.ntmps132 rfl rfl ?_
  refine GC.seq ?_
  refine GC.region ?_
  refine GL.v Wag ?_
  refine GL.nil ?_
  refine GE.seq ?_
  refine GC.seq ?_
  refine GC.region ?_
  refine GL.v Wmv ?_
  refine GL.v Wmv ?_
  refine GL.v Wln ?_
  refine GL.v Wsu ?_
  refine GL.v Wag ?_
  refine GL.nil ?_
  refine GE.seq ?_
  refine GC.seq ?_
  refine GC.seq ?_
  refine GC.region ?_
  refine GL.v Wmv ?_
  refine GL.v Wls ?_
  refine GL.nil ?_
  refine GE.seq ?_
  refine GC.ifs (fun h1 => ?_) (fun h1 => ?_)
  · -- T
    refine GC.seq ?_
    refine GC.region ?_
    refine GL.v Wag ?_
    refine GL.nil ?_
    refine GE.seq ?_
    refine GC.ret ?_
    refine GE.seq_ret ?_
    -- returns, path T
    refine GE.ret_tmp (L' := L) (.inl rfl) rfl rfl Wsb ?_
    exact ⟨by rw [if_pos h1], rfl⟩
  · -- F
    refine GC.skip ?_
    refine GE.seq ?_
    refine GC.seq ?_
    refine GC.region ?_
    refine GL.v Wmv ?_
    refine GL.v Wag ?_
    refine GL.nil ?_
    refine GE.seq ?_
    refine GC.ret ?_
    -- returns, path F
    refine GE.ret_tmp (L' := L) (.inl rfl) rfl rfl Wsb ?_
    exact ⟨by rw [if_neg h1], rfl⟩
theorem szFormula_spec (w0 : World) (L : List Asn) (A : Option Addr) (n c : Nat) (left : Int) (hn : n ≤ 9223372036854775807) (l0 : 0 ≤ left) (l1 : left ≤ 1048576) :
    Tr Try.prog 114 #[.agg #[.slice A n c], .int .i64 left] w0 L (fun v L' => v = .int .i64 (if left - n < 0 then -1 else left - n) ∧ L' = L) := by
  refine Tr.enter (args := [.agg #[.slice A n c], .int .i64 left]) Try.func114 Try.ntmps114 rfl rfl ?_
  refine GC.seq ?_
  refine GC.region ?_
  refine GL.box_agg rfl rfl ?_; intro g2
  refine GL.v Wag ?_
  refine GL.nil ?_
  refine GE.seq ?_
  refine GC.seq ?_
  refine GC.region ?_
  refine GL.v Wfa ?_
  refine GL.v Wlb ?_
  refine GL.v Wmv ?_
  refine GL.callF rfl rfl (szPartS_spec _ _ _ _ _ _ hn l0 l1) ?_
  refine GL.v Wag ?_
  refine GL.nil ?_
  refine GE.seq ?_
  refine GC.seq ?_
  refine GC.seq ?_
  refine GC.region ?_
  refine GL.v Wmv ?_
  refine GL.v Wls ?_
  refine GL.nil ?_
  refine GE.seq ?_
  refine GC.ifs (fun h1 => ?_) (fun h1 => ?_)
  · -- T
    refine GC.seq ?_
    refine GC.region ?_
    refine GL.v Wag ?_
    refine GL.nil ?_
    refine GE.seq ?_
    refine GC.ret ?_
    refine GE.seq_ret ?_
    -- returns, path T
    refine GE.ret_tmp (L' := L) (.inl rfl) rfl rfl Wsb ?_
    exact ⟨by rw [if_pos (by split at h1 <;> omega)], rfl⟩
  · -- F
    refine GC.skip ?_
    refine GE.seq ?_
    refine GC.seq ?_
    refine GC.region ?_
    refine GL.v Wmv ?_
    refine GL.v Wag ?_
    refine GL.nil ?_
    refine GE.seq ?_
    refine GC.ret ?_
    -- returns, path F
    refine GE.ret_tmp (L' := L) (.inl rfl) rfl rfl Wsb ?_
    refine ⟨?_, rfl⟩
    split at h1
    · omega
    · rw [if_neg (by omega)]
theorem szNode_spec (w0 : World) (L : List Asn) (k : Int) (A : Option Addr) (n c : Nat) (left : Int) (hn : n ≤ 9223372036854775807) (l0 : 0 ≤ left) (l1 : left ≤ 1048576) :
    Tr Try.prog 91 #[.agg #[.int .i64 k, .slice A n c], .int .i64 left] w0 L (fun v L' => v = .int .i64 (if left - n < 0 then -1 else left - n) ∧ L' = L) := by
  refine Tr.enter (args := [.agg #[.int .i64 k, .slice A n c], .int .i64 left]) Try.func91 Try.ntmps91 rfl rfl ?_
  refine GC.seq ?_
  refine GC.region ?_
  refine GL.box_agg rfl rfl ?_; intro g2
  refine GL.v Wag ?_
  refine GL.nil ?_
  refine GE.seq ?_
  refine GC.seq ?_
  refine GC.region ?_
  refine GL.v Wfa ?_
  refine GL.v Wlb1 ?_
  refine GL.v Wmv ?_
  refine GL.callF rfl rfl (szFormula_spec _ _ _ _ _ _ hn l0 l1) ?_
  refine GL.v Wag ?_
  refine GL.nil ?_
  refine GE.seq ?_
  refine GC.seq ?_
  refine GC.seq ?_
  refine GC.region ?_
  refine GL.v Wmv ?_
  refine GL.v Wls ?_
  refine GL.nil ?_
  refine GE.seq ?_
  refine GC.ifs (fun h1 => ?_) (fun h1 => ?_)
  · -- T
    refine GC.seq ?_
    refine GC.region ?_
    refine GL.v Wag ?_
    refine GL.nil ?_
    refine GE.seq ?_
    refine GC.ret ?_
    refine GE.seq_ret ?_
    -- returns, path T
    refine GE.ret_tmp (L' := L) (.inl rfl) rfl rfl Wsb ?_
    exact ⟨by rw [if_pos (by split at h1 <;> omega)], rfl⟩
  · -- F
    refine GC.skip ?_
    refine GE.seq ?_
    refine GC.seq ?_
    refine GC.region ?_
    refine GL.v Wmv ?_
    refine GL.v Wag ?_
    refine GL.nil ?_
    refine GE.seq ?_
    refine GC.ret ?_
    -- returns, path F
    refine GE.ret_tmp (L' := L) (.inl rfl) rfl rfl Wsb ?_
    refine ⟨?_, rfl⟩
    split at h1
    · omega
    · rw [if_neg (by omega)]
theorem szNodeS_spec (w0 : World) (L : List Asn) (A : Option Addr) (c : Nat) (ms : List NdM) (hG : RdL w0 L A c ms) (left : Int) (l0 : 0 ≤ left) (l1 : left ≤ 1048576) :
    Tr Try.prog 56 #[.slice A ms.length c, .int .i64 left] w0 L (fun v L' => ∃ x : Int, v = .int .i64 x ∧ -1 ≤ x ∧ x ≤ left ∧ (0 ≤ x → SizeG ms) ∧ L' = L) := by
  have hN := hG.nodes
  refine Tr.rd_cap hN fun hc1 hc2 => ?_
  refine Tr.enter (args := [.slice A ms.length c, .int .i64 left]) Try.func56 Try.ntmps56 rfl rfl ?_
  refine GC.seq ?_
  refine GC.region ?_
  refine GL.v Wag ?_
  refine GL.nil ?_
  refine GE.seq ?_
  refine GC.seq ?_
  refine GC.region ?_
  refine GL.v Wmv ?_
  refine GL.v Wmv ?_
  refine GL.v Wln ?_
  refine GL.v Wsu ?_
  refine GL.v Wag ?_
  refine GL.nil ?_
  refine GE.seq ?_
  refine GC.seq ?_
  refine GC.seq ?_
  refine GC.region ?_
  refine GL.v Wmv ?_
  refine GL.v Wls ?_
  refine GL.nil ?_
  refine GE.seq ?_
  refine GC.ifs (fun h1 => ?_) (fun h1 => ?_)
  · -- T
    refine GC.seq ?_
    refine GC.region ?_
    refine GL.v Wag ?_
    refine GL.nil ?_
    refine GE.seq ?_
    refine GC.ret ?_
    refine GE.seq_ret ?_
    -- returns, path T
    refine GE.ret_tmp (L' := L) (.inl rfl) rfl rfl Wsb ?_
    exact ⟨-1, rfl, by omega, by omega, fun h => by omega, rfl⟩
  · -- F
    refine GC.skip ?_
    refine GE.seq ?_
    refine GC.seq ?_
    refine GC.seq ?_
    refine GC.region ?_
    refine GL.v Wag ?_
    refine GL.nil ?_
    refine GE.seq ?_
    refine GC.block ?_
    -- loop 1: carried slots [1, 5]
    refine GC.loopK (α := Nat × Int) (fun x => x.1 ≤ ms.length ∧ 0 ≤ x.2 ∧ x.2 ≤ left ∧ ∀ j (h : j < x.1) (h' : j < ms.length), ms[j].parts.length ≤ 1100000) (fun x => [(1, .int .i64 x.2), (5, .int .i64 x.1)]) [(0, _)] (fun x => L) (fun x => ms.length - x.1) (0, _) Wkp Wsb ⟨Nat.zero_le _, by dsimp only; omega, by dsimp only; omega, fun _ h => by dsimp only at h; omega⟩ ?_
    rintro ⟨i, lf⟩ ⟨hi, hl0, hl1, hok⟩
    dsimp only at hi hl0 hl1 hok ⊢
    refine GC.seq ?_
    refine GC.seq ?_
    refine GC.region ?_
    refine GL.v Wmv ?_
    refine GL.v Wmv ?_
    refine GL.v Wln ?_
    refine GL.v Wls ?_
    refine GL.nil ?_
    refine GE.seq ?_
    refine GC.ifs (fun h2 => ?_) (fun h2 => ?_)
    · -- FT
      have hil : i < ms.length := by omega
      refine GC.rd_cap (hG.parts i hil) fun hp1 hp2 => ?_
      refine GC.skip ?_
      refine GE.seq ?_
      refine GC.seq ?_
      refine GC.block ?_
      refine GC.seq ?_
      refine GC.region ?_
      refine GL.v Wmv ?_
      refine GL.v Wmv ?_
      refine GL.v Wix ?_
      refine GL.v Wle ?_
      refine GL.v Wmv ?_
      refine GL.callF rfl rfl (szNode_spec _ _ _ _ _ _ _ (by omega) hl0 (by omega)) ?_
      refine GL.v Wag ?_
      refine GL.nil ?_
      refine GE.seq ?_
      refine GC.seq ?_
      refine GC.region ?_
      refine GL.v Wmv ?_
      refine GL.v Wls ?_
      refine GL.nil ?_
      refine GE.seq ?_
      refine GC.ifs (fun h3 => ?_) (fun h3 => ?_)
      · -- FTT
        refine GC.seq ?_
        refine GC.region ?_
        refine GL.v Wag ?_
        refine GL.nil ?_
        refine GE.seq ?_
        refine GC.ret ?_
        refine GE.block_ret ?_
        refine GE.seq_ret ?_
        refine GE.loop_ret ?_
        refine GE.block_ret ?_
        refine GE.seq_ret ?_
        -- returns, path FTT
        refine GE.ret_tmp (L' := L) (.inl rfl) rfl rfl Wsb ?_
        exact ⟨-1, rfl, by omega, by omega, fun h => by omega, rfl⟩
      · -- FTF
        refine GC.skip ?_
        refine GE.block ?_
        refine GE.seq ?_
        refine GC.region ?_
        refine GL.v Wmv ?_
        refine GL.v Wad ?_
        refine GL.v Wag ?_
        refine GL.nil ?_
        -- round of loop 1, path FTF
        split at h3
        · omega
        · rename_i hnn
          simp only [if_neg hnn]
          refine GE.round (i + 1, lf - ms[i].parts.length) ⟨by dsimp only; omega, by dsimp only; omega, by dsimp only; omega, fun j h h' => ?_⟩ (by dsimp only; omega) Wkp Wsb
          by_cases e : j = i
          · subst e; omega
          · exact hok j (by dsimp only at h; omega) h'
    · -- FF
      refine GC.exit ?_
      refine GE.seq_exit ?_
      refine GE.loop_exit ?_
      refine GE.block_exit ?_
      refine GE.seq ?_
      refine GC.seq ?_
      refine GC.region ?_
      refine GL.v Wmv ?_
      refine GL.v Wag ?_
      refine GL.nil ?_
      refine GE.seq ?_
      refine GC.ret ?_
      -- returns, path FF
      refine GE.ret_tmp (L' := L) (.inl rfl) rfl rfl Wsb ?_
      exact ⟨lf, rfl, by omega, by omega, fun _ => ⟨by omega, fun j h => hok j (by omega) h⟩, rfl⟩
theorem szGraph_spec (w0 : World) (L : List Asn) (A : Option Addr) (c : Nat) (ms : List NdM) (hG : RdL w0 L A c ms) (left : Int) (l0 : 0 ≤ left) (l1 : left ≤ 1048576) :
    Tr Try.prog 15 #[.agg #[.slice A ms.length c], .int .i64 left] w0 L (fun v L' => ∃ x : Int, v = .int .i64 x ∧ -1 ≤ x ∧ x ≤ left ∧ (0 ≤ x → SizeG ms) ∧ L' = L) := by
  refine Tr.enter (args := [.agg #[.slice A ms.length c], .int .i64 left]) Try.func15 Try.ntmps15 rfl rfl ?_
  refine GC.seq ?_
  refine GC.region ?_
  refine GL.box_agg rfl rfl ?_; intro g2
  refine GL.v Wag ?_
  refine GL.nil ?_
  refine GE.seq ?_
  refine GC.seq ?_
  refine GC.region ?_
  refine GL.v Wfa ?_
  refine GL.v Wlb ?_
  refine GL.v Wmv ?_
  refine GL.call rfl rfl (szNodeS_spec _ _ _ _ _ (hG.imp Wim) _ l0 l1) ?_
  rintro _ _ ⟨x, rfl, x1, x2, x3, e⟩
  rw [e]; clear e
  refine GL.v Wag ?_
  refine GL.nil ?_
  refine GE.seq ?_
  refine GC.seq ?_
  refine GC.seq ?_
  refine GC.region ?_
  refine GL.v Wmv ?_
  refine GL.v Wls ?_
  refine GL.nil ?_
  refine GE.seq ?_
  refine GC.ifs (fun h1 => ?_) (fun h1 => ?_)
  · -- T
    refine GC.seq ?_
    refine GC.region ?_
    refine GL.v Wag ?_
    refine GL.nil ?_
    refine GE.seq ?_
    refine GC.ret ?_
    refine GE.seq_ret ?_
    -- returns, path T
    refine GE.ret_tmp (L' := L) (.inl rfl) rfl rfl Wsb ?_
    exact ⟨-1, rfl, by omega, by omega, fun h => by omega, rfl⟩
  · -- F
    refine GC.skip ?_
    refine GE.seq ?_
    refine GC.seq ?_
    refine GC.region ?_
    refine GL.v Wmv ?_
    refine GL.v Wag ?_
    refine GL.nil ?_
    refine GE.seq ?_
    refine GC.ret ?_
    -- returns, path F
    refine GE.ret_tmp (L' := L) (.inl rfl) rfl rfl Wsb ?_
    exact ⟨x, rfl, by omega, by omega, fun h => x3 h, rfl⟩
theorem toPart_spec (w0 : World) (L : List Asn) (p : Part) : Tr Try.prog 152 #[p.val] w0 L (fun v L' => v = p.val ∧ L' = L) := by
  refine Tr.enter (args := [p.val]) Try.func152 Try.ntmps152 rfl rfl ?_
  refine GC.seq ?_
  refine GC.region ?_
  refine GL.box_agg rfl rfl ?_; intro g1
  refine GL.alloc rfl ?_; intro g2
  refine GL.nil ?_
  refine GE.seq ?_
  refine GC.seq ?_
  refine GC.region ?_
  refine GL.alloc rfl ?_; intro g3
  refine GL.nil ?_
  refine GE.seq ?_
  refine GC.seq ?_
  refine GC.region ?_
  refine GL.v Wfa ?_
  refine GL.v Wlb ?_
  refine GL.v Wfa ?_
  refine GL.store_blk rfl rfl rfl Wpk (Nat.lt_of_lt_of_le (Nat.le_of_ble_eq_true (by rfl)) (Nat.le_refl _)) (by rfl) (by rfl) ?_
  refine GL.nil ?_
  refine GE.seq ?_
  refine GC.seq ?_
  refine GC.region ?_
  refine GL.v Wfa ?_
  refine GL.v Wlb ?_
  refine GL.v Wfa ?_
  refine GL.store_blk rfl rfl rfl Wpk (Nat.lt_of_lt_of_le (Nat.le_of_ble_eq_true (by rfl)) (Nat.le_refl _)) (by rfl) (by rfl) ?_
  refine GL.nil ?_
  refine GE.seq ?_
  refine GC.seq ?_
  refine GC.region ?_
  refine GL.v Wfa ?_
  refine GL.v Wlb ?_
  refine GL.v Wfa ?_
  refine GL.store_blk rfl rfl rfl Wpk (Nat.lt_of_lt_of_le (Nat.le_of_ble_eq_true (by rfl)) (Nat.le_refl _)) (by rfl) (by rfl) ?_
  refine GL.nil ?_
  refine GE.seq ?_
  refine GC.seq ?_
  refine GC.region ?_
  refine GL.v Wfa ?_
  refine GL.v Wlb ?_
  refine GL.v Wfa ?_
  refine GL.store_blk rfl rfl rfl Wpk (Nat.lt_of_lt_of_le (Nat.le_of_ble_eq_true (by rfl)) (Nat.le_refl _)) (by rfl) (by rfl) ?_
  refine GL.nil ?_
  refine GE.seq ?_
  refine GC.seq ?_
  refine GC.region ?_
  refine GL.v Wfa ?_
  refine GL.v Wlb ?_
  refine GL.v Wfa ?_
  refine GL.store_blk rfl rfl rfl Wpk (Nat.lt_of_lt_of_le (Nat.le_of_ble_eq_true (by rfl)) (Nat.le_refl _)) (by rfl) (by rfl) ?_
  refine GL.nil ?_
  refine GE.seq ?_
  refine GC.seq ?_
  refine GC.region ?_
  refine GL.v Wlba ?_
  refine GL.store_varN rfl rfl rfl Wpk (by rfl) (by rfl) (by rfl) ?_
  refine GL.nil ?_
  refine GE.seq ?_
  refine GC.ret ?_
  -- returns, path 
  refine GE.ret_cell (L' := L) (.inl rfl) rfl rfl rfl (BlkRd.of_pick Wpk) (by rfl) Wsb ?_
  exact ⟨rfl, rfl⟩
theorem toPartS_spec (w0 : World) (L : List Asn) (A : Option Addr) (c : Nat) (ps : List Part) (hR : Rd w0 L lpartE A c ps) (hl : ps.length ≤ 1100000) :
    Tr Try.prog 133 #[.slice A ps.length c] w0 L (fun v L' => ∃ B, v = .slice B ps.length ps.length ∧ L' = row partE B ps.length ps :: L) := by
  refine Tr.enter (args := [.slice A ps.length c]) Try.func133 Try.ntmps133 rfl rfl ?_
  refine GC.seq ?_
  refine GC.region ?_
  refine GL.v Wag ?_
  refine GL.nil ?_
  refine GE.seq ?_
  refine GC.seq ?_
  refine GC.region ?_
  refine GL.v Wmv ?_
  refine GL.v Wln ?_
  refine GL.make rfl rfl Wik Wik (by omega) (by omega) rfl ?_; intro g7
  refine GL.v Wag ?_
  refine GL.nil ?_
  refine GE.seq ?_
  refine GC.seq ?_
  refine GC.seq ?_
  refine GC.region ?_
  refine GL.v Wag ?_
  refine GL.nil ?_
  refine GE.seq ?_
  refine GC.block ?_
  -- loop 1: carried slots [4]
  refine GC.loopK (α := Nat) (fun i => i ≤ ps.length) (fun i => [(4, .int .i64 i)]) [(0, _), (3, _)] (fun i => row partE (some ⟨g7, 0, none⟩) ps.length (ps.take i ++ List.replicate (ps.length - i) ⟨0, 0, 0, 0, 0⟩) :: L) (fun i => ps.length - i) 0 Wkp Wsb (Nat.zero_le _) ?_
  rintro i hi
  have hfl := fill_len ps ⟨0, 0, 0, 0, 0⟩ i _ rfl hi
  refine GC.seq ?_
  refine GC.seq ?_
  refine GC.region ?_
  refine GL.v Wmv ?_
  refine GL.v Wmv ?_
  refine GL.v Wln ?_
  refine GL.v Wls ?_
  refine GL.nil ?_
  refine GE.seq ?_
  refine GC.ifs (fun h1 => ?_) (fun h1 => ?_)
  · -- T
    have hil : i < ps.length := by omega
    refine GC.skip ?_
    refine GE.seq ?_
    refine GC.seq ?_
    refine GC.block ?_
    refine GC.region ?_
    refine GL.v Wmv ?_
    refine GL.v Wmv ?_
    refine GL.v Wmv ?_
    refine GL.v Wmv ?_
    refine GL.v Wix ?_
    refine GL.v Wle ?_
    refine GL.callF rfl rfl (toPart_spec _ _ _) ?_
    refine GL.v Wix ?_
    refine GL.store_el rfl rfl Wpk rfl rfl rfl (by first | omega | (simp; done) | (simp; omega)) ?_
    refine GL.nil ?_
    refine GE.block ?_
    refine GE.seq ?_
    refine GC.region ?_
    refine GL.v Wmv ?_
    refine GL.v Wad ?_
    refine GL.v Wag ?_
    refine GL.nil ?_
    -- round of loop 1, path T
    rw [fill_set ps _ i _ rfl hil]
    refine GE.round (i + 1) (by omega) (by omega) Wkp Wsb
  · -- F
    have hie : i = ps.length := by omega
    subst hie
    rw [List.take_length, Nat.sub_self, List.replicate_zero, List.append_nil]
    refine GC.exit ?_
    refine GE.seq_exit ?_
    refine GE.loop_exit ?_
    refine GE.block_exit ?_
    refine GE.seq ?_
    refine GC.seq ?_
    refine GC.region ?_
    refine GL.v Wmv ?_
    refine GL.v Wag ?_
    refine GL.nil ?_
    refine GE.seq ?_
    refine GC.ret ?_
    -- returns, path F
    refine GE.ret_tmp (L' := row partE (some ⟨g7, 0, none⟩) ps.length ps :: L) (.inl rfl) rfl rfl Wsb ?_
    exact ⟨_, rfl, rfl⟩
theorem toFormula_spec (w0 : World) (L : List Asn) (A : Option Addr) (c : Nat) (ps : List Part) (hR : Rd w0 L lpartE A c ps) (hl : ps.length ≤ 1100000) :
    Tr Try.prog 115 #[.agg #[.slice A ps.length c]] w0 L (fun v L' => ∃ B, v = .agg #[.slice B ps.length ps.length] ∧ L' = row partE B ps.length ps :: L) := by
  refine Tr.enter (args := [.agg #[.slice A ps.length c]]) Try.func115 Try.ntmps115 rfl rfl ?_
  refine GC.seq ?_
  refine GC.region ?_
  refine GL.box_agg rfl rfl ?_; intro g1
  refine GL.alloc rfl ?_; intro g2
  refine GL.nil ?_
  refine GE.seq ?_
  refine GC.seq ?_
  refine GC.region ?_
  refine GL.alloc rfl ?_; intro g3
  refine GL.nil ?_
  refine GE.seq ?_
  refine GC.seq ?_
  refine GC.region ?_
  refine GL.v Wfa ?_
  refine GL.v Wlb ?_
  refine GL.call rfl rfl (toPartS_spec _ _ _ _ _ Wrd Wom) ?_
  rintro _ _ ⟨B6, rfl, rfl⟩
  refine GL.v Wfa ?_
  refine GL.store_blk rfl rfl rfl Wpk (Nat.lt_of_lt_of_le (Nat.le_of_ble_eq_true (by rfl)) (Nat.le_refl _)) (by rfl) (by rfl) ?_
  refine GL.nil ?_
  refine GE.seq ?_
  refine GC.seq ?_
  refine GC.region ?_
  refine GL.v Wlba ?_
  refine GL.store_varN rfl rfl rfl Wpk (by rfl) (by rfl) (by rfl) ?_
  refine GL.nil ?_
  refine GE.seq ?_
  refine GC.ret ?_
  -- returns, path 
  refine GE.ret_cell (L' := row partE B6 ps.length ps :: L) (.inl rfl) rfl rfl rfl (BlkRd.of_pick Wpk) (by rfl) Wsb ?_
  exact ⟨_, rfl, rfl⟩
theorem toNode_spec (w0 : World) (L : List Asn) (k : Int) (A : Option Addr) (c : Nat) (ps : List Part) (hR : Rd w0 L lpartE A c ps) (hl : ps.length ≤ 1100000) :
    Tr Try.prog 92 #[.agg #[.int .i64 k, .slice A ps.length c]] w0 L (fun v L' => ∃ B, v = .agg #[.int .i64 k, .slice B ps.length ps.length] ∧ L' = row partE B ps.length ps :: L) := by
  refine Tr.enter (args := [.agg #[.int .i64 k, .slice A ps.length c]]) Try.func92 Try.ntmps92 rfl rfl ?_
  refine GC.seq ?_
  refine GC.region ?_
  refine GL.box_agg rfl rfl ?_; intro g1
  refine GL.alloc rfl ?_; intro g2
  refine GL.nil ?_
  refine GE.seq ?_
  refine GC.seq ?_
  refine GC.region ?_
  refine GL.alloc rfl ?_; intro g3
  refine GL.nil ?_
  refine GE.seq ?_
  refine GC.seq ?_
  refine GC.region ?_
  refine GL.v Wfa ?_
  refine GL.v Wlb ?_
  refine GL.v Wfa ?_
  refine GL.store_blk rfl rfl rfl Wpk (Nat.lt_of_lt_of_le (Nat.le_of_ble_eq_true (by rfl)) (Nat.le_refl _)) (by rfl) (by rfl) ?_
  refine GL.nil ?_
  refine GE.seq ?_
  refine GC.seq ?_
  refine GC.region ?_
  refine GL.v Wfa ?_
  refine GL.v Wlb1 ?_
  refine GL.call rfl rfl (toFormula_spec _ _ _ _ _ Wrd Wom) ?_
  rintro _ _ ⟨B9, rfl, rfl⟩
  refine GL.v Wfa ?_
  refine GL.store_blk rfl rfl rfl Wpk (Nat.lt_of_lt_of_le (Nat.le_of_ble_eq_true (by rfl)) (Nat.le_refl _)) (by rfl) (by rfl) ?_
  refine GL.nil ?_
  refine GE.seq ?_
  refine GC.seq ?_
  refine GC.region ?_
  refine GL.v Wlba ?_
  refine GL.store_varN rfl rfl rfl Wpk (by rfl) (by rfl) (by rfl) ?_
  refine GL.nil ?_
  refine GE.seq ?_
  refine GC.ret ?_
  -- returns, path 
  refine GE.ret_cell (L' := row partE B9 ps.length ps :: L) (.inl rfl) rfl rfl rfl (BlkRd.of_pick Wpk) (by rfl) Wsb ?_
  exact ⟨_, rfl, rfl⟩
theorem GE.parts_snoc {P : Program} {Q : Exit → Act → World → Prop} {w0 : World} {N : Nat} {fs : List Kf} {F : Env} {L L1 L2 : List Asn} {e : Exit} {ms : List NdM} (m : NdM) (p : Pick L m.rowA L1) (q : Pick L1 (partsA ms) L2) (h : GE P Q w0 N fs e F (partsA (ms ++ [m]) :: L2)) : GE P Q w0 N fs e F L :=
  GE.state (fun w hs => St.parts_snoc (St.pick (A := partsA ms) (L := m.rowA :: L1) (L' := m.rowA :: L2) (hs.pick p) (.tail q) |>.pick (.tail .head))) h
theorem GC.parts0 {P : Program} {Q : Exit → Act → World → Prop} {w0 : World} {N : Nat} {fs : List Kf} {F : Env} {L : List Asn} {c : Code} (h : GC P Q w0 N fs c F (partsA [] :: L)) : GC P Q w0 N fs c F L := GC.state (fun _ hs => hs.partsA_nil) h
theorem fill2_set {α : Type} (ys : List α) (z m : α) (i n : Nat) (hy : ys.length = i) (h : i < n) : (ys ++ List.replicate (n - i) z).set i m = (ys ++ [m]) ++ List.replicate (n - (i + 1)) z := by
  have e : n - i = (n - (i + 1)) + 1 := by omega
  rw [e, List.replicate_succ, List.set_append, if_neg (by omega)]
  have : i - ys.length = 0 := by omega
  rw [this, List.append_assoc]
  rfl
theorem gr_take_succ {ms : List NdM} {i : Nat} (h : i < ms.length) : gr (ms.take (i + 1)) = gr (ms.take i) ++ [ms[i].nd] := by
  unfold gr
  rw [List.take_succ_eq_append_getElem h, List.map_append]
  rfl
theorem toNodeS_spec (w0 : World) (L : List Asn) (A : Option Addr) (c : Nat) (ms : List NdM) (hG : RdL w0 L A c ms) (hS : SizeG ms) :
    Tr Try.prog 57 #[.slice A ms.length c] w0 L (fun v L' => ∃ B ms', gr ms' = gr ms ∧ v = .slice B ms'.length ms'.length ∧ L' = row nodeE B ms'.length ms' :: partsA ms' :: L) := by
  have hN := hG.nodes
  have hSl := hS.1
  refine Tr.enter (args := [.slice A ms.length c]) Try.func57 Try.ntmps57 rfl rfl ?_
  refine GC.seq ?_
  refine GC.region ?_
  refine GL.v Wag ?_
  refine GL.nil ?_
  refine GE.seq ?_
  refine GC.seq ?_
  refine GC.region ?_
  refine GL.v Wmv ?_
  refine GL.v Wln ?_
  refine GL.make rfl rfl Wik Wik (by omega) (by omega) rfl ?_; intro g7
  refine GL.v Wag ?_
  refine GL.nil ?_
  refine GE.seq ?_
  refine GC.seq ?_
  refine GC.seq ?_
  refine GC.region ?_
  refine GL.v Wag ?_
  refine GL.nil ?_
  refine GE.seq ?_
  refine GC.block ?_
  -- loop 1: carried slots [4]
  refine GC.parts0 ?_
  refine GC.loopK (α := Nat × List NdM) (fun x => x.1 ≤ ms.length ∧ x.2.length = x.1 ∧ gr x.2 = gr (ms.take x.1)) (fun x => [(4, .int .i64 x.1)]) [(0, _), (3, _)] (fun x => row nodeE (some ⟨g7, 0, none⟩) ms.length (x.2 ++ List.replicate (ms.length - x.1) ⟨0, none, 0, []⟩) :: partsA x.2 :: L) (fun x => ms.length - x.1) (0, []) Wkp Wsb ⟨Nat.zero_le _, rfl, rfl⟩ ?_
  rintro ⟨i, ns⟩ ⟨hi, hnl, hgr⟩
  dsimp only at hi hnl hgr ⊢
  have hfl : (ns ++ List.replicate (ms.length - i) (⟨0, none, 0, []⟩ : NdM)).length = ms.length := by simp; omega
  refine GC.seq ?_
  refine GC.seq ?_
  refine GC.region ?_
  refine GL.v Wmv ?_
  refine GL.v Wmv ?_
  refine GL.v Wln ?_
  refine GL.v Wls ?_
  refine GL.nil ?_
  refine GE.seq ?_
  refine GC.ifs (fun h1 => ?_) (fun h1 => ?_)
  · -- T
    have hil : i < ms.length := by omega
    have hP := hG.parts i hil
    have hSi := hS.2 i hil
    refine GC.skip ?_
    refine GE.seq ?_
    refine GC.seq ?_
    refine GC.block ?_
    refine GC.region ?_
    refine GL.v Wmv ?_
    refine GL.v Wmv ?_
    refine GL.v Wmv ?_
    refine GL.v Wmv ?_
    refine GL.v Wix ?_
    refine GL.v Wle ?_
    refine GL.call rfl rfl (toNode_spec _ _ _ _ _ _ Wrd Wom) ?_
    rintro _ _ ⟨B20, rfl, rfl⟩
    refine GL.v Wix ?_
    refine GL.store_el (v' := ⟨ms[i].kind, B20, ms[i].parts.length, ms[i].parts⟩) rfl rfl Wpk rfl rfl rfl Wom ?_
    refine GL.nil ?_
    refine GE.block ?_
    refine GE.seq ?_
    refine GC.region ?_
    refine GL.v Wmv ?_
    refine GL.v Wad ?_
    refine GL.v Wag ?_
    refine GL.nil ?_
    -- round of loop 1, path T
    refine GE.parts_snoc ⟨ms[i].kind, B20, ms[i].parts.length, ms[i].parts⟩ Wpk Wpk ?_
    rw [fill2_set _ _ _ _ _ hnl hil]
    refine GE.round (i + 1, ns ++ [⟨ms[i].kind, B20, ms[i].parts.length, ms[i].parts⟩]) ⟨by dsimp only; omega, by simp [hnl], ?_⟩ (by dsimp only; omega) Wkp Wsb
    dsimp only
    rw [gr_take_succ hil, ← hgr]
    simp [gr, NdM.nd]
  · -- F
    have hie : i = ms.length := by omega
    subst hie
    rw [List.take_length] at hgr
    rw [Nat.sub_self, List.replicate_zero, List.append_nil, ← hnl]
    refine GC.exit ?_
    refine GE.seq_exit ?_
    refine GE.loop_exit ?_
    refine GE.block_exit ?_
    refine GE.seq ?_
    refine GC.seq ?_
    refine GC.region ?_
    refine GL.v Wmv ?_
    refine GL.v Wag ?_
    refine GL.nil ?_
    refine GE.seq ?_
    refine GC.ret ?_
    -- returns, path F
    refine GE.ret_tmp (L' := row nodeE (some ⟨g7, 0, none⟩) ns.length ns :: partsA ns :: L) (.inl rfl) rfl rfl Wsb ?_
    exact ⟨_, ns, hgr, rfl, rfl⟩
theorem toGraph_spec (w0 : World) (L : List Asn) (A : Option Addr) (c : Nat) (ms : List NdM) (hG : RdL w0 L A c ms) (hS : SizeG ms) :
    Tr Try.prog 17 #[.agg #[.slice A ms.length c]] w0 L (fun v L' => ∃ B ms', gr ms' = gr ms ∧ v = .agg #[.slice B ms'.length ms'.length] ∧ L' = row nodeE B ms'.length ms' :: partsA ms' :: L) := by
  refine Tr.enter (args := [.agg #[.slice A ms.length c]]) Try.func17 Try.ntmps17 rfl rfl ?_
  refine GC.seq ?_
  refine GC.region ?_
  refine GL.box_agg rfl rfl ?_; intro g1
  refine GL.alloc rfl ?_; intro g2
  refine GL.nil ?_
  refine GE.seq ?_
  refine GC.seq ?_
  refine GC.region ?_
  refine GL.alloc rfl ?_; intro g3
  refine GL.nil ?_
  refine GE.seq ?_
  refine GC.seq ?_
  refine GC.region ?_
  refine GL.v Wfa ?_
  refine GL.v Wlb ?_
  refine GL.call rfl rfl (toNodeS_spec _ _ _ _ _ (hG.imp Wim) hS) ?_
  rintro _ _ ⟨B, ns, hgr, rfl, rfl⟩
  refine GL.v Wfa ?_
  refine GL.store_blk rfl rfl rfl Wpk (Nat.lt_of_lt_of_le (Nat.le_of_ble_eq_true (by rfl)) (Nat.le_refl _)) (by rfl) (by rfl) ?_
  refine GL.nil ?_
  refine GE.seq ?_
  refine GC.seq ?_
  refine GC.region ?_
  refine GL.v Wlba ?_
  refine GL.store_varN rfl rfl rfl Wpk (by rfl) (by rfl) (by rfl) ?_
  refine GL.nil ?_
  refine GE.seq ?_
  refine GC.ret ?_
  -- returns, path 
  refine GE.ret_cell (L' := row nodeE B ns.length ns :: partsA ns :: L) (.inl rfl) rfl rfl rfl (BlkRd.of_pick Wpk) (by rfl) Wsb ?_
  exact ⟨B, ns, hgr, rfl, rfl⟩

/-! comparisons -/
theorem eqPart_spec (w0 : World) (L : List Asn) (p q : Part) : Tr Try.prog 153 #[p.val, q.val] w0 L (fun v L' => v = .bool (decide (p = q)) ∧ L' = L) := by
  refine Tr.enter (args := [p.val, q.val]) Try.func153 Try.ntmps153 rfl rfl ?_
  refine GC.seq ?_
  refine GC.region ?_
  refine GL.box_agg rfl rfl ?_; intro g2
  refine GL.box_agg rfl rfl ?_; intro g3
  refine GL.v Wag ?_
  refine GL.nil ?_
  refine GE.seq ?_
  refine GC.seq ?_
  refine GC.seq ?_
  refine GC.region ?_
  refine GL.v Wfa ?_
  refine GL.v Wlb ?_
  refine GL.v Wfa ?_
  refine GL.v Wlb ?_
  refine GL.v Wnq ?_
  refine GL.nil ?_
  refine GE.seq ?_
  refine GC.ifs (fun h1 => ?_) (fun h1 => ?_)
  · -- T
    refine GC.seq ?_
    refine GC.region ?_
    refine GL.v Wag ?_
    refine GL.nil ?_
    refine GE.seq ?_
    refine GC.ret ?_
    refine GE.seq_ret ?_
    -- returns, path T
    refine GE.ret_tmp (L' := L) (.inl rfl) rfl rfl Wsb ?_
    exact ⟨by rw [decide_eq_false (fun e => h1 (by rw [e]))], rfl⟩
  · -- F
    refine GC.skip ?_
    refine GE.seq ?_
    refine GC.seq ?_
    refine GC.seq ?_
    refine GC.region ?_
    refine GL.v Wfa ?_
    refine GL.v Wlb ?_
    refine GL.v Wfa ?_
    refine GL.v Wlb ?_
    refine GL.v Wnq ?_
    refine GL.nil ?_
    refine GE.seq ?_
    refine GC.ifs (fun h2 => ?_) (fun h2 => ?_)
    · -- FT
      refine GC.seq ?_
      refine GC.region ?_
      refine GL.v Wag ?_
      refine GL.nil ?_
      refine GE.seq ?_
      refine GC.ret ?_
      refine GE.seq_ret ?_
      -- returns, path FT
      refine GE.ret_tmp (L' := L) (.inl rfl) rfl rfl Wsb ?_
      exact ⟨by rw [decide_eq_false (fun e => h2 (by rw [e]))], rfl⟩
    · -- FF
      refine GC.skip ?_
      refine GE.seq ?_
      refine GC.seq ?_
      refine GC.seq ?_
      refine GC.region ?_
      refine GL.v Wfa ?_
      refine GL.v Wlb ?_
      refine GL.v Wfa ?_
      refine GL.v Wlb ?_
      refine GL.v Wnq ?_
      refine GL.nil ?_
      refine GE.seq ?_
      refine GC.ifs (fun h3 => ?_) (fun h3 => ?_)
      · -- FFT
        refine GC.seq ?_
        refine GC.region ?_
        refine GL.v Wag ?_
        refine GL.nil ?_
        refine GE.seq ?_
        refine GC.ret ?_
        refine GE.seq_ret ?_
        -- returns, path FFT
        refine GE.ret_tmp (L' := L) (.inl rfl) rfl rfl Wsb ?_
        exact ⟨by rw [decide_eq_false (fun e => h3 (by rw [e]))], rfl⟩
      · -- FFF
        refine GC.skip ?_
        refine GE.seq ?_
        refine GC.seq ?_
        refine GC.seq ?_
        refine GC.region ?_
        refine GL.v Wfa ?_
        refine GL.v Wlb ?_
        refine GL.v Wfa ?_
        refine GL.v Wlb ?_
        refine GL.v Wnq ?_
        refine GL.nil ?_
        refine GE.seq ?_
        refine GC.ifs (fun h4 => ?_) (fun h4 => ?_)
        · -- FFFT
          refine GC.seq ?_
          refine GC.region ?_
          refine GL.v Wag ?_
          refine GL.nil ?_
          refine GE.seq ?_
          refine GC.ret ?_
          refine GE.seq_ret ?_
          -- returns, path FFFT
          refine GE.ret_tmp (L' := L) (.inl rfl) rfl rfl Wsb ?_
          exact ⟨by rw [decide_eq_false (fun e => h4 (by rw [e]))], rfl⟩
        · -- FFFF
          refine GC.skip ?_
          refine GE.seq ?_
          refine GC.seq ?_
          refine GC.seq ?_
          refine GC.region ?_
          refine GL.v Wfa ?_
          refine GL.v Wlb ?_
          refine GL.v Wfa ?_
          refine GL.v Wlb ?_
          refine GL.v Wnq ?_
          refine GL.nil ?_
          refine GE.seq ?_
          refine GC.ifs (fun h5 => ?_) (fun h5 => ?_)
          · -- FFFFT
            refine GC.seq ?_
            refine GC.region ?_
            refine GL.v Wag ?_
            refine GL.nil ?_
            refine GE.seq ?_
            refine GC.ret ?_
            refine GE.seq_ret ?_
            -- returns, path FFFFT
            refine GE.ret_tmp (L' := L) (.inl rfl) rfl rfl Wsb ?_
            exact ⟨by rw [decide_eq_false (fun e => h5 (by rw [e]))], rfl⟩
          · -- FFFFF
            refine GC.skip ?_
            refine GE.seq ?_
            refine GC.seq ?_
            refine GC.region ?_
            refine GL.v Wag ?_
            refine GL.nil ?_
            refine GE.seq ?_
            refine GC.ret ?_
            -- returns, path FFFFF
            refine GE.ret_tmp (L' := L) (.inl rfl) rfl rfl Wsb ?_
            refine ⟨?_, rfl⟩
            obtain ⟨a1, a2, a3, a4, a5⟩ := p
            obtain ⟨b1, b2, b3, b4, b5⟩ := q
            dsimp only at h1 h2 h3 h4 h5
            subst h1 h2 h3 h4 h5
            simp
theorem take_eq_succ {α : Type} {xs ys : List α} {i : Nat} (h : xs.take i = ys.take i) (hx : i < xs.length) (hy : i < ys.length) (e : xs[i] = ys[i]) : xs.take (i + 1) = ys.take (i + 1) := by
  rw [List.take_succ_eq_append_getElem hx, List.take_succ_eq_append_getElem hy, h, e]
theorem get_of_eq {α : Type} {xs ys : List α} {i : Nat} (e : xs = ys) (hx : i < xs.length) (hy : i < ys.length) : xs[i] = ys[i] := by subst e; rfl
theorem eqPartS_spec (w0 : World) (L : List Asn) (A : Option Addr) (c : Nat) (ps : List Part) (hR : Rd w0 L partE A c ps) (B : Option Addr) (d : Nat) (qs : List Part) (hR' : Rd w0 L partE B d qs) (hl : ps.length ≤ 1100000) :
    Tr Try.prog 134 #[.slice A ps.length c, .slice B qs.length d] w0 L (fun v L' => v = .bool (decide (ps = qs)) ∧ L' = L) := by
  refine Tr.enter (args := [.slice A ps.length c, .slice B qs.length d]) Try.func134 Try.ntmps134 rfl rfl ?_
  refine GC.seq ?_
  refine GC.region ?_
  refine GL.v Wag ?_
  refine GL.nil ?_
  refine GE.seq ?_
  refine GC.seq ?_
  refine GC.seq ?_
  refine GC.region ?_
  refine GL.v Wmv ?_
  refine GL.v Wln ?_
  refine GL.v Wmv ?_
  refine GL.v Wln ?_
  refine GL.v Wnq ?_
  refine GL.nil ?_
  refine GE.seq ?_
  refine GC.ifs (fun h1 => ?_) (fun h1 => ?_)
  · -- T
    refine GC.seq ?_
    refine GC.region ?_
    refine GL.v Wag ?_
    refine GL.nil ?_
    refine GE.seq ?_
    refine GC.ret ?_
    refine GE.seq_ret ?_
    -- returns, path T
    refine GE.ret_tmp (L' := L) (.inl rfl) rfl rfl Wsb ?_
    exact ⟨by rw [decide_eq_false (fun e => h1 (by rw [e]))], rfl⟩
  · -- F
    refine GC.skip ?_
    refine GE.seq ?_
    refine GC.seq ?_
    refine GC.seq ?_
    refine GC.region ?_
    refine GL.v Wag ?_
    refine GL.nil ?_
    refine GE.seq ?_
    refine GC.block ?_
    -- loop 1: carried slots [5]
    have hll : ps.length = qs.length := by omega
    refine GC.loopK (α := Nat) (fun i => i ≤ ps.length ∧ ps.take i = qs.take i) (fun i => [(5, .int .i64 i)]) [(0, _), (1, _)] (fun i => L) (fun i => ps.length - i) 0 Wkp Wsb ⟨Nat.zero_le _, rfl⟩ ?_
    rintro i ⟨hi, hte⟩
    refine GC.seq ?_
    refine GC.seq ?_
    refine GC.region ?_
    refine GL.v Wmv ?_
    refine GL.v Wmv ?_
    refine GL.v Wln ?_
    refine GL.v Wls ?_
    refine GL.nil ?_
    refine GE.seq ?_
    refine GC.ifs (fun h2 => ?_) (fun h2 => ?_)
    · -- FT
      have hil : i < ps.length := by omega
      refine GC.skip ?_
      refine GE.seq ?_
      refine GC.seq ?_
      refine GC.block ?_
      refine GC.seq ?_
      refine GC.region_quiet mixed (by kernel_rfl) ?_
      refine GL.v Wmv ?_
      refine GL.v Wmv ?_
      refine GL.v Wix ?_
      refine GL.v Wle ?_
      refine GL.v Wmv ?_
      refine GL.v Wmv ?_
      refine GL.v Wix ?_
      refine GL.v Wle ?_
      refine GL.callF rfl rfl (eqPart_spec _ _ _ _) ?_
      refine GL.v Wnt ?_
      refine GL.nil ?_
      refine GE.seq ?_
      refine GC.ifs (fun h3 => ?_) (fun h3 => ?_)
      · -- FTT
        refine GC.seq ?_
        refine GC.region ?_
        refine GL.v Wag ?_
        refine GL.nil ?_
        refine GE.seq ?_
        refine GC.ret ?_
        refine GE.block_ret ?_
        refine GE.seq_ret ?_
        refine GE.loop_ret ?_
        refine GE.block_ret ?_
        refine GE.seq_ret ?_
        -- returns, path FTT
        refine GE.ret_tmp (L' := L) (.inl rfl) rfl rfl Wsb ?_
        exact ⟨by rw [decide_eq_false (fun e => h3 (get_of_eq e hil (by omega)))], rfl⟩
      · -- FTF
        refine GC.skip ?_
        refine GE.block ?_
        refine GE.seq ?_
        refine GC.region ?_
        refine GL.v Wmv ?_
        refine GL.v Wad ?_
        refine GL.v Wag ?_
        refine GL.nil ?_
        -- round of loop 1, path FTF
        refine GE.round (i + 1) ⟨by omega, take_eq_succ hte hil (by omega) h3⟩ (by omega) Wkp Wsb
    · -- FF
      refine GC.exit ?_
      refine GE.seq_exit ?_
      refine GE.loop_exit ?_
      refine GE.block_exit ?_
      refine GE.seq ?_
      refine GC.seq ?_
      refine GC.region ?_
      refine GL.v Wag ?_
      refine GL.nil ?_
      refine GE.seq ?_
      refine GC.ret ?_
      -- returns, path FF
      refine GE.ret_tmp (L' := L) (.inl rfl) rfl rfl Wsb ?_
      have hie : i = ps.length := by omega
      subst hie
      rw [List.take_length, hll, List.take_length] at hte
      exact ⟨by rw [decide_eq_true hte], rfl⟩
theorem eqFormula_spec (w0 : World) (L : List Asn) (A : Option Addr) (c : Nat) (ps : List Part) (hR : Rd w0 L partE A c ps) (B : Option Addr) (d : Nat) (qs : List Part) (hR' : Rd w0 L partE B d qs) (hl : ps.length ≤ 1100000) :
    Tr Try.prog 116 #[.agg #[.slice A ps.length c], .agg #[.slice B qs.length d]] w0 L (fun v L' => v = .bool (decide (ps = qs)) ∧ L' = L) := by
  refine Tr.enter (args := [.agg #[.slice A ps.length c], .agg #[.slice B qs.length d]]) Try.func116 Try.ntmps116 rfl rfl ?_
  refine GC.seq ?_
  refine GC.region ?_
  refine GL.box_agg rfl rfl ?_; intro g2
  refine GL.box_agg rfl rfl ?_; intro g3
  refine GL.v Wag ?_
  refine GL.nil ?_
  refine GE.seq ?_
  refine GC.seq ?_
  refine GC.seq ?_
  refine GC.region ?_
  refine GL.v Wfa ?_
  refine GL.v Wlb ?_
  refine GL.v Wfa ?_
  refine GL.v Wlb ?_
  refine GL.callF rfl rfl (eqPartS_spec _ _ _ _ _ Wrd _ _ _ Wrd hl) ?_
  refine GL.v Wnt ?_
  refine GL.nil ?_
  refine GE.seq ?_
  refine GC.ifs (fun h1 => ?_) (fun h1 => ?_)
  · -- T
    refine GC.seq ?_
    refine GC.region ?_
    refine GL.v Wag ?_
    refine GL.nil ?_
    refine GE.seq ?_
    refine GC.ret ?_
    refine GE.seq_ret ?_
    -- returns, path T
    refine GE.ret_tmp (L' := L) (.inl rfl) rfl rfl Wsb ?_
    exact ⟨by rw [decide_eq_false h1], rfl⟩
  · -- F
    refine GC.skip ?_
    refine GE.seq ?_
    refine GC.seq ?_
    refine GC.region ?_
    refine GL.v Wag ?_
    refine GL.nil ?_
    refine GE.seq ?_
    refine GC.ret ?_
    -- returns, path F
    refine GE.ret_tmp (L' := L) (.inl rfl) rfl rfl Wsb ?_
    exact ⟨by rw [decide_eq_true h1], rfl⟩
theorem eqNode_spec (w0 : World) (L : List Asn) (m m' : NdM) (hR : Rd w0 L partE m.a m.c m.parts) (hR' : Rd w0 L partE m'.a m'.c m'.parts) (hl : m.parts.length ≤ 1100000) :
    Tr Try.prog 93 #[nodeE.val m, nodeE.val m'] w0 L (fun v L' => v = .bool (decide (m.nd = m'.nd)) ∧ L' = L) := by
  refine Tr.enter (args := [nodeE.val m, nodeE.val m']) Try.func93 Try.ntmps93 rfl rfl ?_
  refine GC.seq ?_
  refine GC.region ?_
  refine GL.box_agg rfl rfl ?_; intro g2
  refine GL.box_agg rfl rfl ?_; intro g3
  refine GL.v Wag ?_
  refine GL.nil ?_
  refine GE.seq ?_
  refine GC.seq ?_
  refine GC.seq ?_
  refine GC.region ?_
  refine GL.v Wfa ?_
  refine GL.v Wlb ?_
  refine GL.v Wfa ?_
  refine GL.v Wlb ?_
  refine GL.v Wnq ?_
  refine GL.nil ?_
  refine GE.seq ?_
  refine GC.ifs (fun h1 => ?_) (fun h1 => ?_)
  · -- T
    refine GC.seq ?_
    refine GC.region ?_
    refine GL.v Wag ?_
    refine GL.nil ?_
    refine GE.seq ?_
    refine GC.ret ?_
    refine GE.seq_ret ?_
    -- returns, path T
    refine GE.ret_tmp (L' := L) (.inl rfl) rfl rfl Wsb ?_
    exact ⟨by rw [decide_eq_false (fun e => h1 (congrArg Nd.kind e))], rfl⟩
  · -- F
    refine GC.skip ?_
    refine GE.seq ?_
    refine GC.seq ?_
    refine GC.seq ?_
    refine GC.region ?_
    refine GL.v Wfa ?_
    refine GL.v Wlb1 ?_
    refine GL.v Wfa ?_
    refine GL.v Wlb1 ?_
    refine GL.callF rfl rfl (eqFormula_spec _ _ _ _ _ Wrd _ _ _ Wrd hl) ?_
    refine GL.v Wnt ?_
    refine GL.nil ?_
    refine GE.seq ?_
    refine GC.ifs (fun h2 => ?_) (fun h2 => ?_)
    · -- FT
      refine GC.seq ?_
      refine GC.region ?_
      refine GL.v Wag ?_
      refine GL.nil ?_
      refine GE.seq ?_
      refine GC.ret ?_
      refine GE.seq_ret ?_
      -- returns, path FT
      refine GE.ret_tmp (L' := L) (.inl rfl) rfl rfl Wsb ?_
      exact ⟨by rw [decide_eq_false (fun e => h2 (congrArg Nd.parts e))], rfl⟩
    · -- FF
      refine GC.skip ?_
      refine GE.seq ?_
      refine GC.seq ?_
      refine GC.region ?_
      refine GL.v Wag ?_
      refine GL.nil ?_
      refine GE.seq ?_
      refine GC.ret ?_
      -- returns, path FF
      refine GE.ret_tmp (L' := L) (.inl rfl) rfl rfl Wsb ?_
      exact ⟨by rw [decide_eq_true (by simp only [NdM.nd]; rw [h1, h2])], rfl⟩
theorem eqNodeS_spec (w0 : World) (L : List Asn) (A : Option Addr) (c : Nat) (ms : List NdM) (hG : RdG w0 L A c ms) (B : Option Addr) (d : Nat) (ns : List NdM) (hG' : RdG w0 L B d ns) (hS : SizeG ms) :
    Tr Try.prog 59 #[.slice A ms.length c, .slice B ns.length d] w0 L (fun v L' => v = .bool (decide (gr ms = gr ns)) ∧ L' = L) := by
  have hN := hG.nodes
  have hN' := hG'.nodes
  have hSl := hS.1
  refine Tr.enter (args := [.slice A ms.length c, .slice B ns.length d]) Try.func59 Try.ntmps59 rfl rfl ?_
  refine GC.seq ?_
  refine GC.region ?_
  refine GL.v Wag ?_
  refine GL.nil ?_
  refine GE.seq ?_
  refine GC.seq ?_
  refine GC.seq ?_
  refine GC.region ?_
  refine GL.v Wmv ?_
  refine GL.v Wln ?_
  refine GL.v Wmv ?_
  refine GL.v Wln ?_
  refine GL.v Wnq ?_
  refine GL.nil ?_
  refine GE.seq ?_
  refine GC.ifs (fun h1 => ?_) (fun h1 => ?_)
  · -- T
    refine GC.seq ?_
    refine GC.region ?_
    refine GL.v Wag ?_
    refine GL.nil ?_
    refine GE.seq ?_
    refine GC.ret ?_
    refine GE.seq_ret ?_
    -- returns, path T
    refine GE.ret_tmp (L' := L) (.inl rfl) rfl rfl Wsb ?_
    exact ⟨by rw [decide_eq_false (fun e => h1 (by have := congrArg List.length e; simp at this; omega))], rfl⟩
  · -- F
    refine GC.skip ?_
    refine GE.seq ?_
    refine GC.seq ?_
    refine GC.seq ?_
    refine GC.region ?_
    refine GL.v Wag ?_
    refine GL.nil ?_
    refine GE.seq ?_
    refine GC.block ?_
    -- loop 1: carried slots [5]
    have hll : ms.length = ns.length := by omega
    refine GC.loopK (α := Nat) (fun i => i ≤ ms.length ∧ (gr ms).take i = (gr ns).take i) (fun i => [(5, .int .i64 i)]) [(0, _), (1, _)] (fun i => L) (fun i => ms.length - i) 0 Wkp Wsb ⟨Nat.zero_le _, rfl⟩ ?_
    rintro i ⟨hi, hte⟩
    refine GC.seq ?_
    refine GC.seq ?_
    refine GC.region ?_
    refine GL.v Wmv ?_
    refine GL.v Wmv ?_
    refine GL.v Wln ?_
    refine GL.v Wls ?_
    refine GL.nil ?_
    refine GE.seq ?_
    refine GC.ifs (fun h2 => ?_) (fun h2 => ?_)
    · -- FT
      have hil : i < ms.length := by omega
      have hil' : i < ns.length := by omega
      have hP := hG.parts i hil
      have hP' := hG'.parts i hil'
      have hSi := hS.2 i hil
      refine GC.skip ?_
      refine GE.seq ?_
      refine GC.seq ?_
      refine GC.block ?_
      refine GC.seq ?_
      refine GC.region_quiet mixed (by kernel_rfl) ?_
      refine GL.v Wmv ?_
      refine GL.v Wmv ?_
      refine GL.v Wix ?_
      refine GL.v Wle ?_
      refine GL.v Wmv ?_
      refine GL.v Wmv ?_
      refine GL.v Wix ?_
      refine GL.v Wle ?_
      refine GL.callF rfl rfl (eqNode_spec _ _ _ _ Wrd Wrd hSi) ?_
      refine GL.v Wnt ?_
      refine GL.nil ?_
      refine GE.seq ?_
      refine GC.ifs (fun h3 => ?_) (fun h3 => ?_)
      · -- FTT
        refine GC.seq ?_
        refine GC.region ?_
        refine GL.v Wag ?_
        refine GL.nil ?_
        refine GE.seq ?_
        refine GC.ret ?_
        refine GE.block_ret ?_
        refine GE.seq_ret ?_
        refine GE.loop_ret ?_
        refine GE.block_ret ?_
        refine GE.seq_ret ?_
        -- returns, path FTT
        refine GE.ret_tmp (L' := L) (.inl rfl) rfl rfl Wsb ?_
        exact ⟨by rw [decide_eq_false (fun e => h3 (by have := get_of_eq e (i := i) (by simpa using hil) (by simpa using hil'); rwa [gr_get, gr_get] at this))], rfl⟩
      · -- FTF
        refine GC.skip ?_
        refine GE.block ?_
        refine GE.seq ?_
        refine GC.region ?_
        refine GL.v Wmv ?_
        refine GL.v Wad ?_
        refine GL.v Wag ?_
        refine GL.nil ?_
        -- round of loop 1, path FTF
        refine GE.round (i + 1) ⟨by omega, take_eq_succ hte (by simpa using hil) (by simpa using hil') (by rw [gr_get, gr_get]; exact h3)⟩ (by omega) Wkp Wsb
    · -- FF
      refine GC.exit ?_
      refine GE.seq_exit ?_
      refine GE.loop_exit ?_
      refine GE.block_exit ?_
      refine GE.seq ?_
      refine GC.seq ?_
      refine GC.region ?_
      refine GL.v Wag ?_
      refine GL.nil ?_
      refine GE.seq ?_
      refine GC.ret ?_
      -- returns, path FF
      refine GE.ret_tmp (L' := L) (.inl rfl) rfl rfl Wsb ?_
      have hie : i = ms.length := by omega
      subst hie
      have e : gr ms = gr ns := by
        have h1 : (gr ms).take ms.length = gr ms := by rw [← gr_length, List.take_length]
        have h2 : (gr ns).take ms.length = gr ns := by rw [hll, ← gr_length, List.take_length]
        rw [← h1, hte, h2]
      exact ⟨by rw [decide_eq_true e], rfl⟩
theorem eqGraph_spec (w0 : World) (L : List Asn) (A : Option Addr) (c : Nat) (ms : List NdM) (hG : RdG w0 L A c ms) (B : Option Addr) (d : Nat) (ns : List NdM) (hG' : RdG w0 L B d ns) (hS : SizeG ms) :
    Tr Try.prog 19 #[.agg #[.slice A ms.length c], .agg #[.slice B ns.length d]] w0 L (fun v L' => v = .bool (decide (gr ms = gr ns)) ∧ L' = L) := by
  refine Tr.enter (args := [.agg #[.slice A ms.length c], .agg #[.slice B ns.length d]]) Try.func19 Try.ntmps19 rfl rfl ?_
  refine GC.seq ?_
  refine GC.region ?_
  refine GL.box_agg rfl rfl ?_; intro g2
  refine GL.box_agg rfl rfl ?_; intro g3
  refine GL.v Wag ?_
  refine GL.nil ?_
  refine GE.seq ?_
  refine GC.seq ?_
  refine GC.seq ?_
  refine GC.region ?_
  refine GL.v Wfa ?_
  refine GL.v Wlb ?_
  refine GL.v Wfa ?_
  refine GL.v Wlb ?_
  refine GL.callF rfl rfl (eqNodeS_spec _ _ _ _ _ (hG.imp Wim) _ _ _ (hG'.imp Wim) hS) ?_
  refine GL.v Wnt ?_
  refine GL.nil ?_
  refine GE.seq ?_
  refine GC.ifs (fun h1 => ?_) (fun h1 => ?_)
  · -- T
    refine GC.seq ?_
    refine GC.region ?_
    refine GL.v Wag ?_
    refine GL.nil ?_
    refine GE.seq ?_
    refine GC.ret ?_
    refine GE.seq_ret ?_
    -- returns, path T
    refine GE.ret_tmp (L' := L) (.inl rfl) rfl rfl Wsb ?_
    exact ⟨by rw [decide_eq_false h1], rfl⟩
  · -- F
    refine GC.skip ?_
    refine GE.seq ?_
    refine GC.seq ?_
    refine GC.region ?_
    refine GL.v Wag ?_
    refine GL.nil ?_
    refine GE.seq ?_
    refine GC.ret ?_
    -- returns, path F
    refine GE.ret_tmp (L' := L) (.inl rfl) rfl rfl Wsb ?_
    exact ⟨by rw [decide_eq_true h1], rfl⟩
theorem SizeG.gr {ms ns : List NdM} (h : SizeG ms) (e : gr ns = gr ms) : SizeG ns := by
  have hl : ns.length = ms.length := by have := congrArg List.length e; simpa using this
  refine ⟨by have := h.1; omega, fun i hi => ?_⟩
  have h1 := get_of_eq e (i := i) (by simpa using hi) (by simp; omega)
  rw [gr_get, gr_get] at h1
  have h2 := congrArg Nd.parts h1
  simp only [NdM.nd] at h2
  rw [h2]; exact h.2 i (by omega)
end SG
