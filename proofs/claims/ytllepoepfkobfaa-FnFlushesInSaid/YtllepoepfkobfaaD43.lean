/- Contracts: the laws' looks at acts; one batch, of both. -/
import Derived.Test.YtllepoepfkobfaaD9
import Derived.Test.YtllepoepfkobfaaD32
import Derived.Test.YtllepoepfkobfaaD41
import Derived.Test.YtllepoepfkobfaaOpen
namespace SG
open Go Go.RowKit Go.Proofs
set_option linter.unusedVariables false
set_option linter.unusedSimpArgs false
set_option maxRecDepth 100000
theorem opens_lact (W : World) : Opens Try.prog W lactE (fun _ => True) := fun H enc n cs x h => by
  obtain ⟨hl, m0, y0, h0⟩ := trod_field (t := 84) (i := 0) (off := 0) (ty := 3) (by kernel_rfl) h
  obtain ⟨_, m1, y1, h1⟩ := trod_field (t := 84) (i := 1) (off := 1) (ty := 3) (by kernel_rfl) h
  obtain ⟨_, m2, y2, h2⟩ := trod_field (t := 84) (i := 2) (off := 2) (ty := 3) (by kernel_rfl) h
  have c1 : Try.prog.cellsOf 3 = 1 := by kernel_rfl
  have c3 : Try.prog.cellsOf 84 = 3 := by kernel_rfl
  rw [c1] at h0 h1 h2
  rw [c3] at hl
  match cs, hl with
  | [a0, a1, a2], _ =>
    obtain ⟨n0, e0, _⟩ := trod_int1 (k := .i64) (by kernel_rfl) h0
    obtain ⟨n1, e1, _⟩ := trod_int1 (k := .i64) (by kernel_rfl) h1
    obtain ⟨n2, e2, _⟩ := trod_int1 (k := .i64) (by kernel_rfl) h2
    simp at e0 e1 e2
    subst e0 e1 e2
    exact ⟨⟨n0, n1, n2⟩, rfl, trivial⟩
theorem szActS_spec (w0 : World) (L : List Asn) (A : Option Addr) (n c : Nat) (left : Int) (hn : n ≤ 9223372036854775807) (l0 : 0 ≤ left) (l1 : left ≤ 1048576) :
    Tr Try.prog 16 #[.slice A n c, .int .i64 left] w0 L (fun v L' => v = .int .i64 (if left - n < 0 then -1 else left - n) ∧ L' = L) := by
  refine Tr.enter (args := [.slice A n c, .int .i64 left]) Try.func16 Try.ntmps16 rfl rfl ?_
  refine GC.seq ?_
  refine GC.region ?_
  refine GL.v Wag ?_
  refine GL.nil ?_
  refine GE.seq ?_
  refine GC.seq ?_
  refine GC.region ?_
  refine GL.v Wmv ?_
  refine GL.v Wmv ?_
  refine GL.v Wln ?_
  refine GL.v Wsu ?_
  refine GL.v Wag ?_
  refine GL.nil ?_
  refine GE.seq ?_
  refine GC.seq ?_
  refine GC.seq ?_
  refine GC.region ?_
  refine GL.v Wmv ?_
  refine GL.v Wls ?_
  refine GL.nil ?_
  refine GE.seq ?_
  refine GC.ifs (fun h1 => ?_) (fun h1 => ?_)
  · -- T
    refine GC.seq ?_
    refine GC.region ?_
    refine GL.v Wag ?_
    refine GL.nil ?_
    refine GE.seq ?_
    refine GC.ret ?_
    refine GE.seq_ret ?_
    -- returns, path T
    refine GE.ret_tmp (L' := L) (.inl rfl) rfl rfl Wsb ?_
    exact ⟨by rw [if_pos h1], rfl⟩
  · -- F
    refine GC.skip ?_
    refine GE.seq ?_
    refine GC.seq ?_
    refine GC.region ?_
    refine GL.v Wmv ?_
    refine GL.v Wag ?_
    refine GL.nil ?_
    refine GE.seq ?_
    refine GC.ret ?_
    -- returns, path F
    refine GE.ret_tmp (L' := L) (.inl rfl) rfl rfl Wsb ?_
    exact ⟨by rw [if_neg h1], rfl⟩
theorem toAct_spec (w0 : World) (L : List Asn) (p : Act3) : Tr Try.prog 58 #[p.val] w0 L (fun v L' => v = p.val ∧ L' = L) := by
  refine Tr.enter (args := [p.val]) Try.func58 Try.ntmps58 rfl rfl ?_
  refine GC.seq ?_
  refine GC.region ?_
  refine GL.box_agg rfl rfl ?_; intro g1
  refine GL.alloc rfl ?_; intro g2
  refine GL.nil ?_
  refine GE.seq ?_
  refine GC.seq ?_
  refine GC.region ?_
  refine GL.alloc rfl ?_; intro g3
  refine GL.nil ?_
  refine GE.seq ?_
  refine GC.seq ?_
  refine GC.region ?_
  refine GL.v Wfa ?_
  refine GL.v Wlb ?_
  refine GL.v Wfa ?_
  refine GL.store_blk rfl rfl rfl Wpk (Nat.lt_of_lt_of_le (Nat.le_of_ble_eq_true (by rfl)) (Nat.le_refl _)) (by rfl) (by rfl) ?_
  refine GL.nil ?_
  refine GE.seq ?_
  refine GC.seq ?_
  refine GC.region ?_
  refine GL.v Wfa ?_
  refine GL.v Wlb ?_
  refine GL.v Wfa ?_
  refine GL.store_blk rfl rfl rfl Wpk (Nat.lt_of_lt_of_le (Nat.le_of_ble_eq_true (by rfl)) (Nat.le_refl _)) (by rfl) (by rfl) ?_
  refine GL.nil ?_
  refine GE.seq ?_
  refine GC.seq ?_
  refine GC.region ?_
  refine GL.v Wfa ?_
  refine GL.v Wlb ?_
  refine GL.v Wfa ?_
  refine GL.store_blk rfl rfl rfl Wpk (Nat.lt_of_lt_of_le (Nat.le_of_ble_eq_true (by rfl)) (Nat.le_refl _)) (by rfl) (by rfl) ?_
  refine GL.nil ?_
  refine GE.seq ?_
  refine GC.seq ?_
  refine GC.region ?_
  refine GL.v Wlba ?_
  refine GL.store_varN rfl rfl rfl Wpk (by rfl) (by rfl) (by rfl) ?_
  refine GL.nil ?_
  refine GE.seq ?_
  refine GC.ret ?_
  -- returns, path 
  refine GE.ret_cell (L' := L) (.inl rfl) rfl rfl rfl (BlkRd.of_pick Wpk) (by rfl) Wsb ?_
  exact ⟨rfl, rfl⟩
theorem toActS_spec (w0 : World) (L : List Asn) (A : Option Addr) (c : Nat) (ps : List Act3) (hR : Rd w0 L lactE A c ps) (hl : ps.length ≤ 1100000) :
    Tr Try.prog 18 #[.slice A ps.length c] w0 L (fun v L' => ∃ B, v = .slice B ps.length ps.length ∧ L' = row actE B ps.length ps :: L) := by
  refine Tr.enter (args := [.slice A ps.length c]) Try.func18 Try.ntmps18 rfl rfl ?_
  refine GC.seq ?_
  refine GC.region ?_
  refine GL.v Wag ?_
  refine GL.nil ?_
  refine GE.seq ?_
  refine GC.seq ?_
  refine GC.region ?_
  refine GL.v Wmv ?_
  refine GL.v Wln ?_
  refine GL.make rfl rfl Wik Wik (by omega) (by omega) rfl ?_; intro g7
  refine GL.v Wag ?_
  refine GL.nil ?_
  refine GE.seq ?_
  refine GC.seq ?_
  refine GC.seq ?_
  refine GC.region ?_
  refine GL.v Wag ?_
  refine GL.nil ?_
  refine GE.seq ?_
  refine GC.block ?_
  -- loop 1: carried slots [4]
  refine GC.loopK (α := Nat) (fun i => i ≤ ps.length) (fun i => [(4, .int .i64 i)]) [(0, _), (3, _)] (fun i => row actE (some ⟨g7, 0, none⟩) ps.length (ps.take i ++ List.replicate (ps.length - i) ⟨0, 0, 0⟩) :: L) (fun i => ps.length - i) 0 Wkp Wsb (Nat.zero_le _) ?_
  rintro i hi
  have hfl := fill_len ps ⟨0, 0, 0⟩ i _ rfl hi
  refine GC.seq ?_
  refine GC.seq ?_
  refine GC.region ?_
  refine GL.v Wmv ?_
  refine GL.v Wmv ?_
  refine GL.v Wln ?_
  refine GL.v Wls ?_
  refine GL.nil ?_
  refine GE.seq ?_
  refine GC.ifs (fun h1 => ?_) (fun h1 => ?_)
  · -- T
    have hil : i < ps.length := by omega
    refine GC.skip ?_
    refine GE.seq ?_
    refine GC.seq ?_
    refine GC.block ?_
    refine GC.region ?_
    refine GL.v Wmv ?_
    refine GL.v Wmv ?_
    refine GL.v Wmv ?_
    refine GL.v Wmv ?_
    refine GL.v Wix ?_
    refine GL.v Wle ?_
    refine GL.callF rfl rfl (toAct_spec _ _ _) ?_
    refine GL.v Wix ?_
    refine GL.store_el rfl rfl Wpk rfl rfl rfl (by first | omega | (simp; done) | (simp; omega)) ?_
    refine GL.nil ?_
    refine GE.block ?_
    refine GE.seq ?_
    refine GC.region ?_
    refine GL.v Wmv ?_
    refine GL.v Wad ?_
    refine GL.v Wag ?_
    refine GL.nil ?_
    -- round of loop 1, path T
    rw [fill_set ps _ i _ rfl hil]
    refine GE.round (i + 1) (by omega) (by omega) Wkp Wsb
  · -- F
    have hie : i = ps.length := by omega
    subst hie
    rw [List.take_length, Nat.sub_self, List.replicate_zero, List.append_nil]
    refine GC.exit ?_
    refine GE.seq_exit ?_
    refine GE.loop_exit ?_
    refine GE.block_exit ?_
    refine GE.seq ?_
    refine GC.seq ?_
    refine GC.region ?_
    refine GL.v Wmv ?_
    refine GL.v Wag ?_
    refine GL.nil ?_
    refine GE.seq ?_
    refine GC.ret ?_
    -- returns, path F
    refine GE.ret_tmp (L' := row actE (some ⟨g7, 0, none⟩) ps.length ps :: L) (.inl rfl) rfl rfl Wsb ?_
    exact ⟨_, rfl, rfl⟩
theorem eqAct_spec (w0 : World) (L : List Asn) (p q : Act3) : Tr Try.prog 60 #[p.val, q.val] w0 L (fun v L' => v = .bool (decide (p = q)) ∧ L' = L) := by
  refine Tr.enter (args := [p.val, q.val]) Try.func60 Try.ntmps60 rfl rfl ?_
  refine GC.seq ?_
  refine GC.region ?_
  refine GL.box_agg rfl rfl ?_; intro g2
  refine GL.box_agg rfl rfl ?_; intro g3
  refine GL.v Wag ?_
  refine GL.nil ?_
  refine GE.seq ?_
  refine GC.seq ?_
  refine GC.seq ?_
  refine GC.region ?_
  refine GL.v Wfa ?_
  refine GL.v Wlb ?_
  refine GL.v Wfa ?_
  refine GL.v Wlb ?_
  refine GL.v Wnq ?_
  refine GL.nil ?_
  refine GE.seq ?_
  refine GC.ifs (fun h1 => ?_) (fun h1 => ?_)
  · -- T
    refine GC.seq ?_
    refine GC.region ?_
    refine GL.v Wag ?_
    refine GL.nil ?_
    refine GE.seq ?_
    refine GC.ret ?_
    refine GE.seq_ret ?_
    -- returns, path T
    refine GE.ret_tmp (L' := L) (.inl rfl) rfl rfl Wsb ?_
    exact ⟨by rw [decide_eq_false (fun e => h1 (by rw [e]))], rfl⟩
  · -- F
    refine GC.skip ?_
    refine GE.seq ?_
    refine GC.seq ?_
    refine GC.seq ?_
    refine GC.region ?_
    refine GL.v Wfa ?_
    refine GL.v Wlb ?_
    refine GL.v Wfa ?_
    refine GL.v Wlb ?_
    refine GL.v Wnq ?_
    refine GL.nil ?_
    refine GE.seq ?_
    refine GC.ifs (fun h2 => ?_) (fun h2 => ?_)
    · -- FT
      refine GC.seq ?_
      refine GC.region ?_
      refine GL.v Wag ?_
      refine GL.nil ?_
      refine GE.seq ?_
      refine GC.ret ?_
      refine GE.seq_ret ?_
      -- returns, path FT
      refine GE.ret_tmp (L' := L) (.inl rfl) rfl rfl Wsb ?_
      exact ⟨by rw [decide_eq_false (fun e => h2 (by rw [e]))], rfl⟩
    · -- FF
      refine GC.skip ?_
      refine GE.seq ?_
      refine GC.seq ?_
      refine GC.seq ?_
      refine GC.region ?_
      refine GL.v Wfa ?_
      refine GL.v Wlb ?_
      refine GL.v Wfa ?_
      refine GL.v Wlb ?_
      refine GL.v Wnq ?_
      refine GL.nil ?_
      refine GE.seq ?_
      refine GC.ifs (fun h3 => ?_) (fun h3 => ?_)
      · -- FFT
        refine GC.seq ?_
        refine GC.region ?_
        refine GL.v Wag ?_
        refine GL.nil ?_
        refine GE.seq ?_
        refine GC.ret ?_
        refine GE.seq_ret ?_
        -- returns, path FFT
        refine GE.ret_tmp (L' := L) (.inl rfl) rfl rfl Wsb ?_
        exact ⟨by rw [decide_eq_false (fun e => h3 (by rw [e]))], rfl⟩
      · -- FFF
        refine GC.skip ?_
        refine GE.seq ?_
        refine GC.seq ?_
        refine GC.region ?_
        refine GL.v Wag ?_
        refine GL.nil ?_
        refine GE.seq ?_
        refine GC.ret ?_
        -- returns, path FFF
        refine GE.ret_tmp (L' := L) (.inl rfl) rfl rfl Wsb ?_
        refine ⟨?_, rfl⟩
        obtain ⟨a1, a2, a3⟩ := p
        obtain ⟨b1, b2, b3⟩ := q
        dsimp only at h1 h2 h3
        subst h1 h2 h3
        simp
theorem eqActS_spec (w0 : World) (L : List Asn) (A : Option Addr) (c : Nat) (ps : List Act3) (hR : Rd w0 L actE A c ps) (B : Option Addr) (d : Nat) (qs : List Act3) (hR' : Rd w0 L actE B d qs) (hl : ps.length ≤ 1100000) :
    Tr Try.prog 20 #[.slice A ps.length c, .slice B qs.length d] w0 L (fun v L' => v = .bool (decide (ps = qs)) ∧ L' = L) := by
  refine Tr.enter (args := [.slice A ps.length c, .slice B qs.length d]) Try.func20 Try.ntmps20 rfl rfl ?_
  refine GC.seq ?_
  refine GC.region ?_
  refine GL.v Wag ?_
  refine GL.nil ?_
  refine GE.seq ?_
  refine GC.seq ?_
  refine GC.seq ?_
  refine GC.region ?_
  refine GL.v Wmv ?_
  refine GL.v Wln ?_
  refine GL.v Wmv ?_
  refine GL.v Wln ?_
  refine GL.v Wnq ?_
  refine GL.nil ?_
  refine GE.seq ?_
  refine GC.ifs (fun h1 => ?_) (fun h1 => ?_)
  · -- T
    refine GC.seq ?_
    refine GC.region ?_
    refine GL.v Wag ?_
    refine GL.nil ?_
    refine GE.seq ?_
    refine GC.ret ?_
    refine GE.seq_ret ?_
    -- returns, path T
    refine GE.ret_tmp (L' := L) (.inl rfl) rfl rfl Wsb ?_
    exact ⟨by rw [decide_eq_false (fun e => h1 (by rw [e]))], rfl⟩
  · -- F
    refine GC.skip ?_
    refine GE.seq ?_
    refine GC.seq ?_
    refine GC.seq ?_
    refine GC.region ?_
    refine GL.v Wag ?_
    refine GL.nil ?_
    refine GE.seq ?_
    refine GC.block ?_
    -- loop 1: carried slots [5]
    have hll : ps.length = qs.length := by omega
    refine GC.loopK (α := Nat) (fun i => i ≤ ps.length ∧ ps.take i = qs.take i) (fun i => [(5, .int .i64 i)]) [(0, _), (1, _)] (fun i => L) (fun i => ps.length - i) 0 Wkp Wsb ⟨Nat.zero_le _, rfl⟩ ?_
    rintro i ⟨hi, hte⟩
    refine GC.seq ?_
    refine GC.seq ?_
    refine GC.region ?_
    refine GL.v Wmv ?_
    refine GL.v Wmv ?_
    refine GL.v Wln ?_
    refine GL.v Wls ?_
    refine GL.nil ?_
    refine GE.seq ?_
    refine GC.ifs (fun h2 => ?_) (fun h2 => ?_)
    · -- FT
      have hil : i < ps.length := by omega
      refine GC.skip ?_
      refine GE.seq ?_
      refine GC.seq ?_
      refine GC.block ?_
      refine GC.seq ?_
      refine GC.region_quiet mixed (by kernel_rfl) ?_
      refine GL.v Wmv ?_
      refine GL.v Wmv ?_
      refine GL.v Wix ?_
      refine GL.v Wle ?_
      refine GL.v Wmv ?_
      refine GL.v Wmv ?_
      refine GL.v Wix ?_
      refine GL.v Wle ?_
      refine GL.callF rfl rfl (eqAct_spec _ _ _ _) ?_
      refine GL.v Wnt ?_
      refine GL.nil ?_
      refine GE.seq ?_
      refine GC.ifs (fun h3 => ?_) (fun h3 => ?_)
      · -- FTT
        refine GC.seq ?_
        refine GC.region ?_
        refine GL.v Wag ?_
        refine GL.nil ?_
        refine GE.seq ?_
        refine GC.ret ?_
        refine GE.block_ret ?_
        refine GE.seq_ret ?_
        refine GE.loop_ret ?_
        refine GE.block_ret ?_
        refine GE.seq_ret ?_
        -- returns, path FTT
        refine GE.ret_tmp (L' := L) (.inl rfl) rfl rfl Wsb ?_
        exact ⟨by rw [decide_eq_false (fun e => h3 (get_of_eq e hil (by omega)))], rfl⟩
      · -- FTF
        refine GC.skip ?_
        refine GE.block ?_
        refine GE.seq ?_
        refine GC.region ?_
        refine GL.v Wmv ?_
        refine GL.v Wad ?_
        refine GL.v Wag ?_
        refine GL.nil ?_
        -- round of loop 1, path FTF
        refine GE.round (i + 1) ⟨by omega, take_eq_succ hte hil (by omega) h3⟩ (by omega) Wkp Wsb
    · -- FF
      refine GC.exit ?_
      refine GE.seq_exit ?_
      refine GE.loop_exit ?_
      refine GE.block_exit ?_
      refine GE.seq ?_
      refine GC.seq ?_
      refine GC.region ?_
      refine GL.v Wag ?_
      refine GL.nil ?_
      refine GE.seq ?_
      refine GC.ret ?_
      -- returns, path FF
      refine GE.ret_tmp (L' := L) (.inl rfl) rfl rfl Wsb ?_
      have hie : i = ps.length := by omega
      subst hie
      rw [List.take_length, hll, List.take_length] at hte
      exact ⟨by rw [decide_eq_true hte], rfl⟩
def Act3.put (p : Act3) (j : Nat) (x : Int) : Act3 := match j with
  | 0 => { p with kind := x }
  | 1 => { p with node := x }
  | _ => { p with value := x }
section
variable {Q : Exit → Act → World → Prop} {w0 : World} {N : Nat} {fs : List Kf} {ops : Array Oper} {rest : List Oper} {F : Env} {L L1 : List Asn} {ty : TypeId} {pos : String} {after : Array Edge} {x y : Operand}
theorem GL.store_act {t : TypeId} {agg : Bool} {zc : List Value} {A : Option Addr} {c k j : Nat} {xs : List Act3} {n : Int} [hT : TyOk Try.prog t agg 1 zc] (hx : ev F x = some (.pointer (some ((elA A k actE.size).add j)))) (hy : ev F y = some (.int .i64 n))
    (pk : Pick L (row actE A c xs) L1) (hk : k < xs.length) (hj : Nat.blt j 3 = true) (h : GL Try.prog Q w0 N false fs ops rest F (row actE A c (xs.set k (Act3.put xs[k] j n)) :: L1)) : GL Try.prog Q w0 N false fs ops (⟨none, .store t x y, ty, pos, after, none⟩ :: rest) F L := by
  have hj' : j < 3 := by simpa [Nat.blt_eq] using hj
  refine GL.store_el_cell (Act3.put xs[k] j n) hx hy pk (u := .int .i64 n) rfl rfl hk hj' ?_ h
  match j, hj' with
  | 0, _ => rfl
  | 1, _ => rfl
  | 2, _ => rfl
end
def markAc (k : Int) : Act3 := ⟨k, k + 1, k + 2⟩
def markAcs (k : Int) (n : Nat) : List Act3 := (List.range n).map fun (j : Nat) => markAc (k + 3 * j)
@[simp] theorem markAcs_length (k : Int) (n : Nat) : (markAcs k n).length = n := by simp [markAcs]
theorem markAcs_get {k : Int} {n j : Nat} (h : j < (markAcs k n).length) : (markAcs k n)[j] = markAc (k + 3 * j) := by simp [markAcs]
theorem markActS_spec (w0 : World) (L : List Asn) (A : Option Addr) (c : Nat) (xs : List Act3) (k : Int) (h0 : 0 ≤ k) (h1 : k ≤ 9000000000000000) (hl : xs.length ≤ 1100000) :
    Tr Try.prog 34 #[.slice A xs.length c, .int .i64 k] w0 (row actE A c xs :: L) (fun v L' => v = .int .i64 (k + 3 * xs.length) ∧ L' = row actE A c (markAcs k xs.length) :: L) := by
  refine Tr.enter (args := [.slice A xs.length c, .int .i64 k]) Try.func34 Try.ntmps34 rfl rfl ?_
  refine GC.seq ?_
  refine GC.region ?_
  refine GL.v Wag ?_
  refine GL.nil ?_
  refine GE.seq ?_
  refine GC.seq ?_
  refine GC.seq ?_
  refine GC.region ?_
  refine GL.v Wag ?_
  refine GL.nil ?_
  refine GE.seq ?_
  refine GC.block ?_
  -- loop 1: carried slots [1, 5]
  refine GC.loopK (α := Nat × List Act3) (fun x => x.1 ≤ xs.length ∧ x.2.length = xs.length ∧ ∀ j (h : j < x.1) (h' : j < x.2.length), x.2[j] = markAc (k + 3 * j)) (fun x => [(1, .int .i64 (k + 3 * x.1)), (5, .int .i64 x.1)]) [(0, _)] (fun x => row actE A c x.2 :: L) (fun x => xs.length - x.1) (0, xs) (by refine Keeps.cons (by simp; rfl) ?_; repeat (first | exact Keeps.nil | refine Keeps.cons rfl ?_)) Wsb ⟨Nat.zero_le _, rfl, fun _ h => by dsimp only at h; omega⟩ ?_
  rintro ⟨i, ys⟩ ⟨hi, hy, hm⟩
  dsimp only at hi hy hm ⊢
  rw [← hy]
  refine GC.seq ?_
  refine GC.seq ?_
  refine GC.region ?_
  refine GL.v Wmv ?_
  refine GL.v Wmv ?_
  refine GL.v Wln ?_
  refine GL.v Wls ?_
  refine GL.nil ?_
  refine GE.seq ?_
  refine GC.ifs (fun h1 => ?_) (fun h1 => ?_)
  · -- T
    have hil : i < ys.length := by omega
    refine GC.skip ?_
    refine GE.seq ?_
    refine GC.seq ?_
    refine GC.block ?_
    refine GC.seq ?_
    refine GC.region ?_
    refine GL.v Wmv ?_
    refine GL.v Wmv ?_
    refine GL.v Wmv ?_
    refine GL.v Wix ?_
    refine GL.v Wfa ?_
    refine GL.store_act rfl rfl Wpk (by first | omega | (simp; done) | (simp; omega)) rfl ?_
    refine GL.nil ?_
    refine GE.seq ?_
    refine GC.seq ?_
    refine GC.region ?_
    refine GL.v Wmv ?_
    refine GL.v Wad ?_
    refine GL.v Wag ?_
    refine GL.nil ?_
    refine GE.seq ?_
    refine GC.seq ?_
    refine GC.region ?_
    refine GL.v Wmv ?_
    refine GL.v Wmv ?_
    refine GL.v Wmv ?_
    refine GL.v Wix ?_
    refine GL.v Wfa ?_
    refine GL.store_act rfl rfl Wpk (by first | omega | (simp; done) | (simp; omega)) rfl ?_
    refine GL.nil ?_
    refine GE.seq ?_
    refine GC.seq ?_
    refine GC.region ?_
    refine GL.v Wmv ?_
    refine GL.v Wad ?_
    refine GL.v Wag ?_
    refine GL.nil ?_
    refine GE.seq ?_
    refine GC.seq ?_
    refine GC.region ?_
    refine GL.v Wmv ?_
    refine GL.v Wmv ?_
    refine GL.v Wmv ?_
    refine GL.v Wix ?_
    refine GL.v Wfa ?_
    refine GL.store_act rfl rfl Wpk (by first | omega | (simp; done) | (simp; omega)) rfl ?_
    refine GL.nil ?_
    refine GE.seq ?_
    refine GC.region ?_
    refine GL.v Wmv ?_
    refine GL.v Wad ?_
    refine GL.v Wag ?_
    refine GL.nil ?_
    refine GE.block ?_
    refine GE.seq ?_
    refine GC.region ?_
    refine GL.v Wmv ?_
    refine GL.v Wad ?_
    refine GL.v Wag ?_
    refine GL.nil ?_
    -- round of loop 1, path T
    refine GE.round (i + 1, ys.set i (markAc (k + 3 * i))) ⟨by dsimp only; omega, by simp, fun j h h' => ?_⟩ (by dsimp only; omega) (by dsimp only; rw [show k + 3 * (i : Int) + 1 + 1 + 1 = k + 3 * ((i + 1 : Nat) : Int) by omega]; repeat (first | exact Keeps.nil | refine Keeps.cons rfl ?_)) (by dsimp only; refine Sub.cons (L1 := L) ?_ .refl; simp only [List.set_set, List.getElem_set_self, Act3.put, markAc]; rw [show k + 3 * (i : Int) + 1 + 1 = k + 3 * (i : Int) + 2 by omega]; exact Pick.head)
    dsimp only
    rw [List.getElem_set]
    split
    · rename_i e; subst e; rfl
    · exact hm j (by omega) _
  · -- F
    have hie : i = ys.length := by omega
    have he : ys = markAcs k ys.length := List.ext_getElem (by simp) fun j h h' => by rw [markAcs_get]; exact hm j (by omega) h
    refine GC.exit ?_
    refine GE.seq_exit ?_
    refine GE.loop_exit ?_
    refine GE.block_exit ?_
    refine GE.seq ?_
    refine GC.seq ?_
    refine GC.region ?_
    refine GL.v Wmv ?_
    refine GL.v Wag ?_
    refine GL.nil ?_
    refine GE.seq ?_
    refine GC.ret ?_
    -- returns, path F
    refine GE.ret_tmp (L' := row actE A c ys :: L) (.inl rfl) rfl rfl Wsb ?_
    exact ⟨by rw [hie], by rw [← he]⟩
theorem heldActS_spec (w0 : World) (L : List Asn) (A : Option Addr) (c : Nat) (k : Int) (n : Nat) (hX : Rd w0 L actE A c (markAcs k n)) (h0 : 0 ≤ k) (h1 : k ≤ 9000000000000000) (hl : n ≤ 1100000) :
    Tr Try.prog 37 #[.slice A n c, .int .i64 k] w0 L (fun v L' => v = .int .i64 (k + 3 * n) ∧ L' = L) := by
  have hml := markAcs_length k n
  refine Tr.enter (args := [.slice A n c, .int .i64 k]) Try.func37 Try.ntmps37 rfl rfl ?_
  refine GC.seq ?_
  refine GC.region ?_
  refine GL.v Wag ?_
  refine GL.nil ?_
  refine GE.seq ?_
  refine GC.seq ?_
  refine GC.seq ?_
  refine GC.region ?_
  refine GL.v Wag ?_
  refine GL.nil ?_
  refine GE.seq ?_
  refine GC.block ?_
  -- loop 1: carried slots [1, 5]
  refine GC.loopK (α := Nat) (fun i => i ≤ n) (fun i => [(1, .int .i64 (k + 3 * i)), (5, .int .i64 i)]) [(0, _)] (fun i => L) (fun i => n - i) 0 (by refine Keeps.cons (by simp; rfl) ?_; repeat (first | exact Keeps.nil | refine Keeps.cons rfl ?_)) Wsb (Nat.zero_le _) ?_
  rintro i hi
  refine GC.seq ?_
  refine GC.seq ?_
  refine GC.region ?_
  refine GL.v Wmv ?_
  refine GL.v Wmv ?_
  refine GL.v Wln ?_
  refine GL.v Wls ?_
  refine GL.nil ?_
  refine GE.seq ?_
  refine GC.ifs (fun h1 => ?_) (fun h1 => ?_)
  · -- T
    have hil : i < n := by omega
    have hgt : (markAcs k n)[i]'(by omega) = markAc (k + 3 * i) := markAcs_get _
    refine GC.skip ?_
    refine GE.seq ?_
    refine GC.seq ?_
    refine GC.block ?_
    refine GC.seq ?_
    refine GC.seq ?_
    refine GC.region ?_
    refine GL.v Wmv ?_
    refine GL.v Wmv ?_
    refine GL.v Wix ?_
    refine GL.v Wfa ?_
    refine GL.v Wlef ?_
    refine GL.v Wmv ?_
    refine GL.v Wnq ?_
    refine GL.nil ?_
    refine GE.seq ?_
    refine GC.ifs (fun h2 => ?_) (fun h2 => ?_)
    · -- TT
      exact absurd (by rw [hgt]; rfl) h2
    · -- TF
      refine GC.skip ?_
      refine GE.seq ?_
      refine GC.seq ?_
      refine GC.region ?_
      refine GL.v Wmv ?_
      refine GL.v Wad ?_
      refine GL.v Wag ?_
      refine GL.nil ?_
      refine GE.seq ?_
      refine GC.seq ?_
      refine GC.seq ?_
      refine GC.region ?_
      refine GL.v Wmv ?_
      refine GL.v Wmv ?_
      refine GL.v Wix ?_
      refine GL.v Wfa ?_
      refine GL.v Wlef ?_
      refine GL.v Wmv ?_
      refine GL.v Wnq ?_
      refine GL.nil ?_
      refine GE.seq ?_
      refine GC.ifs (fun h3 => ?_) (fun h3 => ?_)
      · -- TFT
        exact absurd (by rw [hgt]; simp only [markAc]) h3
      · -- TFF
        refine GC.skip ?_
        refine GE.seq ?_
        refine GC.seq ?_
        refine GC.region ?_
        refine GL.v Wmv ?_
        refine GL.v Wad ?_
        refine GL.v Wag ?_
        refine GL.nil ?_
        refine GE.seq ?_
        refine GC.seq ?_
        refine GC.seq ?_
        refine GC.region ?_
        refine GL.v Wmv ?_
        refine GL.v Wmv ?_
        refine GL.v Wix ?_
        refine GL.v Wfa ?_
        refine GL.v Wlef ?_
        refine GL.v Wmv ?_
        refine GL.v Wnq ?_
        refine GL.nil ?_
        refine GE.seq ?_
        refine GC.ifs (fun h4 => ?_) (fun h4 => ?_)
        · -- TFFT
          exact absurd (by rw [hgt]; simp only [markAc]; omega) h4
        · -- TFFF
          refine GC.skip ?_
          refine GE.seq ?_
          refine GC.region ?_
          refine GL.v Wmv ?_
          refine GL.v Wad ?_
          refine GL.v Wag ?_
          refine GL.nil ?_
          refine GE.block ?_
          refine GE.seq ?_
          refine GC.region ?_
          refine GL.v Wmv ?_
          refine GL.v Wad ?_
          refine GL.v Wag ?_
          refine GL.nil ?_
          -- round of loop 1, path TFFF
          refine GE.round (i + 1) (by omega) (by omega) (by rw [show k + 3 * (i : Int) + 1 + 1 + 1 = k + 3 * ((i + 1 : Nat) : Int) by omega]; repeat (first | exact Keeps.nil | refine Keeps.cons rfl ?_)) Wsb
  · -- F
    refine GC.exit ?_
    refine GE.seq_exit ?_
    refine GE.loop_exit ?_
    refine GE.block_exit ?_
    refine GE.seq ?_
    refine GC.seq ?_
    refine GC.region ?_
    refine GL.v Wmv ?_
    refine GL.v Wag ?_
    refine GL.nil ?_
    refine GE.seq ?_
    refine GC.ret ?_
    -- returns, path F
    refine GE.ret_tmp (L' := L) (.inl rfl) rfl rfl Wsb ?_
    exact ⟨by rw [show i = n by omega], rfl⟩
end SG
