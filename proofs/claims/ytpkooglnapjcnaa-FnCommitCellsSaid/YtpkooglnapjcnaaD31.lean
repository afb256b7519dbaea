/- Contracts: the laws' looks at histories. -/
import Derived.Test.YtpkooglnapjcnaaD4
import Derived.Test.YtpkooglnapjcnaaD27
import Derived.Test.YtpkooglnapjcnaaD28
namespace SG
open Go Go.RowKit Go.Proofs
set_option linter.unusedVariables false
set_option linter.unusedSimpArgs false
set_option maxRecDepth 100000
theorem sValidHistory_spec (w0 : World) (L : List Asn) (A : Option Addr) (c : Nat) (ms : List NdM) (hG : RdG w0 L A c ms) (B : Option Addr) (d : Nat) (ls : List LiM) (hH : RdLs w0 L B d ls) (a : Int) (hSg : SizeG ms) (hS : SizeLs ls) :
    Tr Try.prog 44 #[.agg #[.slice A ms.length c], .agg #[.slice B ls.length d, .int .i64 a]] w0 L (fun v L' => v = .bool (hisB (gr ms) (li ls) a) ∧ L' = L) := by
  refine Tr.enter (args := [.agg #[.slice A ms.length c], .agg #[.slice B ls.length d, .int .i64 a]]) Try.func44 Try.ntmps44 rfl rfl ?_
  refine GC.seq ?_
  refine GC.region ?_
  refine GL.box_agg rfl rfl ?_; intro g2
  refine GL.box_agg rfl rfl ?_; intro g3
  refine GL.v Wag ?_
  refine GL.nil ?_
  refine GE.seq ?_
  refine GC.seq ?_
  refine GC.region ?_
  refine GL.v Wlba ?_
  refine GL.v Wlba ?_
  refine GL.callF rfl rfl (svalidHistory_spec _ _ _ _ _ (by first | assumption | exact RdG.imp (by assumption) Wim | exact RdG.of_pick Wpk Wpk) _ _ _ (by first | assumption | exact RdLs.imp (by assumption) Wim | exact RdLs.of_pick Wpk Wpk) _ (by assumption) (by assumption)) ?_
  refine GL.v Wag ?_
  refine GL.nil ?_
  refine GE.seq ?_
  refine GC.ret ?_
  -- returns, path 
  refine GE.ret_tmp (L' := L) (.inl rfl) rfl rfl Wsb ?_
  exact ⟨rfl, rfl⟩
theorem equalHistory_spec (w0 : World) (L : List Asn) (A : Option Addr) (c : Nat) (ls : List LiM) (hG : RdLs w0 L A c ls) (a : Int) (B : Option Addr) (d : Nat) (ms : List LiM) (hH : RdLs w0 L B d ms) (b : Int) (hS : SizeLs ls) :
    Tr Try.prog 50 #[.agg #[.slice A ls.length c, .int .i64 a], .agg #[.slice B ms.length d, .int .i64 b]] w0 L (fun v L' => v = .bool (decide (li ls = li ms ∧ a = b)) ∧ L' = L) := by
  refine Tr.enter (args := [.agg #[.slice A ls.length c, .int .i64 a], .agg #[.slice B ms.length d, .int .i64 b]]) Try.func50 Try.ntmps50 rfl rfl ?_
  refine GC.seq ?_
  refine GC.region ?_
  refine GL.box_agg rfl rfl ?_; intro g2
  refine GL.box_agg rfl rfl ?_; intro g3
  refine GL.v Wag ?_
  refine GL.nil ?_
  refine GE.seq ?_
  refine GC.seq ?_
  refine GC.region ?_
  refine GL.v Wfa ?_
  refine GL.v Wlb ?_
  refine GL.v Wfa ?_
  refine GL.v Wlb ?_
  refine GL.callF rfl rfl (equalLists_spec _ _ _ _ _ (by first | assumption | exact RdLs.imp (by assumption) Wim | exact RdLs.of_pick Wpk Wpk) _ _ _ (by first | assumption | exact RdLs.imp (by assumption) Wim | exact RdLs.of_pick Wpk Wpk) (by assumption)) ?_
  refine GL.v Wmv ?_
  refine GL.gs (fun h1 => ?_) (fun h1 => ?_)
  · -- t
    refine GL.want rfl rfl ?_
    refine GL.v Wfa ?_
    refine GL.want rfl rfl ?_
    refine GL.v Wlb ?_
    refine GL.want rfl rfl ?_
    refine GL.v Wfa ?_
    refine GL.want rfl rfl ?_
    refine GL.v Wlb ?_
    refine GL.want rfl rfl ?_
    refine GL.v Weq ?_
    refine GL.v Wpt ?_
    refine GL.v Wag ?_
    refine GL.nil ?_
    refine GE.seq ?_
    refine GC.ret ?_
    -- returns, path t
    refine GE.ret_tmp (L' := L) (.inl rfl) rfl rfl Wsb ?_
    exact ⟨by simp [h1], rfl⟩
  · -- f
    refine GL.unwant rfl rfl rfl rfl ?_
    refine GL.unwant rfl rfl rfl rfl ?_
    refine GL.unwant rfl rfl rfl rfl ?_
    refine GL.unwant rfl rfl rfl rfl ?_
    refine GL.unwant rfl rfl rfl rfl ?_
    refine GL.v Wpf ?_
    refine GL.v Wag ?_
    refine GL.nil ?_
    refine GE.seq ?_
    refine GC.ret ?_
    -- returns, path f
    refine GE.ret_tmp (L' := L) (.inl rfl) rfl rfl Wsb ?_
    exact ⟨by simp [h1], rfl⟩
theorem eqHistory_spec (w0 : World) (L : List Asn) (A : Option Addr) (c : Nat) (ls : List LiM) (hG : RdLs w0 L A c ls) (a : Int) (B : Option Addr) (d : Nat) (ms : List LiM) (hH : RdLs w0 L B d ms) (b : Int) (hS : SizeLs ls) :
    Tr Try.prog 47 #[.agg #[.slice A ls.length c, .int .i64 a], .agg #[.slice B ms.length d, .int .i64 b]] w0 L (fun v L' => v = .bool (decide (li ls = li ms ∧ a = b)) ∧ L' = L) := by
  refine Tr.enter (args := [.agg #[.slice A ls.length c, .int .i64 a], .agg #[.slice B ms.length d, .int .i64 b]]) Try.func47 Try.ntmps47 rfl rfl ?_
  refine GC.seq ?_
  refine GC.region ?_
  refine GL.box_agg rfl rfl ?_; intro g2
  refine GL.box_agg rfl rfl ?_; intro g3
  refine GL.v Wag ?_
  refine GL.nil ?_
  refine GE.seq ?_
  refine GC.seq ?_
  refine GC.seq ?_
  refine GC.region ?_
  refine GL.v Wfa ?_
  refine GL.v Wlb ?_
  refine GL.v Wfa ?_
  refine GL.v Wlb ?_
  refine GL.callF rfl rfl (eqIntSS_spec _ _ _ _ _ (by first | assumption | exact RdLs.imp (by assumption) Wim | exact RdLs.of_pick Wpk Wpk) _ _ _ (by first | assumption | exact RdLs.imp (by assumption) Wim | exact RdLs.of_pick Wpk Wpk) (by assumption)) ?_
  refine GL.v Wnt ?_
  refine GL.nil ?_
  refine GE.seq ?_
  refine GC.ifs (fun h1 => ?_) (fun h1 => ?_)
  · -- T
    refine GC.seq ?_
    refine GC.region ?_
    refine GL.v Wag ?_
    refine GL.nil ?_
    refine GE.seq ?_
    refine GC.ret ?_
    refine GE.seq_ret ?_
    -- returns, path T
    refine GE.ret_tmp (L' := L) (.inl rfl) rfl rfl Wsb ?_
    exact ⟨by simp [h1], rfl⟩
  · -- F
    refine GC.skip ?_
    refine GE.seq ?_
    refine GC.seq ?_
    refine GC.seq ?_
    refine GC.region ?_
    refine GL.v Wfa ?_
    refine GL.v Wlb ?_
    refine GL.v Wfa ?_
    refine GL.v Wlb ?_
    refine GL.v Wnq ?_
    refine GL.nil ?_
    refine GE.seq ?_
    refine GC.ifs (fun h2 => ?_) (fun h2 => ?_)
    · -- FT
      refine GC.seq ?_
      refine GC.region ?_
      refine GL.v Wag ?_
      refine GL.nil ?_
      refine GE.seq ?_
      refine GC.ret ?_
      refine GE.seq_ret ?_
      -- returns, path FT
      refine GE.ret_tmp (L' := L) (.inl rfl) rfl rfl Wsb ?_
      exact ⟨by simp [h1, h2], rfl⟩
    · -- FF
      refine GC.skip ?_
      refine GE.seq ?_
      refine GC.seq ?_
      refine GC.region ?_
      refine GL.v Wag ?_
      refine GL.nil ?_
      refine GE.seq ?_
      refine GC.ret ?_
      -- returns, path FF
      refine GE.ret_tmp (L' := L) (.inl rfl) rfl rfl Wsb ?_
      exact ⟨by simp [h1, h2], rfl⟩
theorem szIntS_spec (w0 : World) (L : List Asn) (A : Option Addr) (n c : Nat) (left : Int) (hn : n ≤ 9223372036854775807) (l0 : 0 ≤ left) (l1 : left ≤ 1048576) :
    Tr Try.prog 140 #[.slice A n c, .int .i64 left] w0 L (fun v L' => v = .int .i64 (if left - n < 0 then -1 else left - n) ∧ L' = L) := by
  refine Tr.enter (args := [.slice A n c, .int .i64 left]) Try.func140 Try.ntmps140 rfl rfl ?_
  refine GC.seq ?_
  refine GC.region ?_
  refine GL.v Wag ?_
  refine GL.nil ?_
  refine GE.seq ?_
  refine GC.seq ?_
  refine GC.region ?_
  refine GL.v Wmv ?_
  refine GL.v Wmv ?_
  refine GL.v Wln ?_
  refine GL.v Wsu ?_
  refine GL.v Wag ?_
  refine GL.nil ?_
  refine GE.seq ?_
  refine GC.seq ?_
  refine GC.seq ?_
  refine GC.region ?_
  refine GL.v Wmv ?_
  refine GL.v Wls ?_
  refine GL.nil ?_
  refine GE.seq ?_
  refine GC.ifs (fun h1 => ?_) (fun h1 => ?_)
  · -- T
    refine GC.seq ?_
    refine GC.region ?_
    refine GL.v Wag ?_
    refine GL.nil ?_
    refine GE.seq ?_
    refine GC.ret ?_
    refine GE.seq_ret ?_
    -- returns, path T
    refine GE.ret_tmp (L' := L) (.inl rfl) rfl rfl Wsb ?_
    exact ⟨by rw [if_pos h1], rfl⟩
  · -- F
    refine GC.skip ?_
    refine GE.seq ?_
    refine GC.seq ?_
    refine GC.region ?_
    refine GL.v Wmv ?_
    refine GL.v Wag ?_
    refine GL.nil ?_
    refine GE.seq ?_
    refine GC.ret ?_
    -- returns, path F
    refine GE.ret_tmp (L' := L) (.inl rfl) rfl rfl Wsb ?_
    exact ⟨by rw [if_neg h1], rfl⟩
theorem szIntSS_spec (w0 : World) (L : List Asn) (A : Option Addr) (c : Nat) (ls : List LiM) (hG : RdLs w0 L A c ls) (left : Int) (l0 : 0 ≤ left) (l1 : left ≤ 1048576) :
    Tr Try.prog 99 #[.slice A ls.length c, .int .i64 left] w0 L (fun v L' => ∃ x : Int, v = .int .i64 x ∧ -1 ≤ x ∧ x ≤ left ∧ (0 ≤ x → SizeLs ls) ∧ L' = L) := by
  have hN := hG.nodes
  refine Tr.rd_cap hN fun hc1 hc2 => ?_
  refine Tr.enter (args := [.slice A ls.length c, .int .i64 left]) Try.func99 Try.ntmps99 rfl rfl ?_
  refine GC.seq ?_
  refine GC.region ?_
  refine GL.v Wag ?_
  refine GL.nil ?_
  refine GE.seq ?_
  refine GC.seq ?_
  refine GC.region ?_
  refine GL.v Wmv ?_
  refine GL.v Wmv ?_
  refine GL.v Wln ?_
  refine GL.v Wsu ?_
  refine GL.v Wag ?_
  refine GL.nil ?_
  refine GE.seq ?_
  refine GC.seq ?_
  refine GC.seq ?_
  refine GC.region ?_
  refine GL.v Wmv ?_
  refine GL.v Wls ?_
  refine GL.nil ?_
  refine GE.seq ?_
  refine GC.ifs (fun h1 => ?_) (fun h1 => ?_)
  · -- T
    refine GC.seq ?_
    refine GC.region ?_
    refine GL.v Wag ?_
    refine GL.nil ?_
    refine GE.seq ?_
    refine GC.ret ?_
    refine GE.seq_ret ?_
    -- returns, path T
    refine GE.ret_tmp (L' := L) (.inl rfl) rfl rfl Wsb ?_
    exact ⟨-1, rfl, by omega, by omega, fun h => by omega, rfl⟩
  · -- F
    refine GC.skip ?_
    refine GE.seq ?_
    refine GC.seq ?_
    refine GC.seq ?_
    refine GC.region ?_
    refine GL.v Wag ?_
    refine GL.nil ?_
    refine GE.seq ?_
    refine GC.block ?_
    -- loop 1: carried slots [1, 5]
    refine GC.loopK (α := Nat × Int) (fun x => x.1 ≤ ls.length ∧ 0 ≤ x.2 ∧ x.2 ≤ left ∧ ∀ j (h : j < x.1) (h' : j < ls.length), ls[j].xs.length ≤ 1100000) (fun x => [(1, .int .i64 x.2), (5, .int .i64 x.1)]) [(0, _)] (fun x => L) (fun x => ls.length - x.1) (0, _) Wkp Wsb ⟨Nat.zero_le _, by dsimp only; omega, by dsimp only; omega, fun _ h => by dsimp only at h; omega⟩ ?_
    rintro ⟨i, lf⟩ ⟨hi, hl0, hl1, hok⟩
    dsimp only at hi hl0 hl1 hok ⊢
    refine GC.seq ?_
    refine GC.seq ?_
    refine GC.region ?_
    refine GL.v Wmv ?_
    refine GL.v Wmv ?_
    refine GL.v Wln ?_
    refine GL.v Wls ?_
    refine GL.nil ?_
    refine GE.seq ?_
    refine GC.ifs (fun h2 => ?_) (fun h2 => ?_)
    · -- FT
      have hil : i < ls.length := by omega
      refine GC.rd_cap (hG.lists i hil) fun hp1 hp2 => ?_
      refine GC.skip ?_
      refine GE.seq ?_
      refine GC.seq ?_
      refine GC.block ?_
      refine GC.seq ?_
      refine GC.region ?_
      refine GL.v Wmv ?_
      refine GL.v Wmv ?_
      refine GL.v Wix ?_
      refine GL.v Wle ?_
      refine GL.v Wmv ?_
      refine GL.callF rfl rfl (szIntS_spec _ _ _ _ _ _ (by omega) hl0 (by omega)) ?_
      refine GL.v Wag ?_
      refine GL.nil ?_
      refine GE.seq ?_
      refine GC.seq ?_
      refine GC.region ?_
      refine GL.v Wmv ?_
      refine GL.v Wls ?_
      refine GL.nil ?_
      refine GE.seq ?_
      refine GC.ifs (fun h3 => ?_) (fun h3 => ?_)
      · -- FTT
        refine GC.seq ?_
        refine GC.region ?_
        refine GL.v Wag ?_
        refine GL.nil ?_
        refine GE.seq ?_
        refine GC.ret ?_
        refine GE.block_ret ?_
        refine GE.seq_ret ?_
        refine GE.loop_ret ?_
        refine GE.block_ret ?_
        refine GE.seq_ret ?_
        -- returns, path FTT
        refine GE.ret_tmp (L' := L) (.inl rfl) rfl rfl Wsb ?_
        exact ⟨-1, rfl, by omega, by omega, fun h => by omega, rfl⟩
      · -- FTF
        refine GC.skip ?_
        refine GE.block ?_
        refine GE.seq ?_
        refine GC.region ?_
        refine GL.v Wmv ?_
        refine GL.v Wad ?_
        refine GL.v Wag ?_
        refine GL.nil ?_
        -- round of loop 1, path FTF
        split at h3
        · omega
        · rename_i hnn
          simp only [if_neg hnn]
          refine GE.round (i + 1, lf - ls[i].xs.length) ⟨by dsimp only; omega, by dsimp only; omega, by dsimp only; omega, fun j h h' => ?_⟩ (by dsimp only; omega) Wkp Wsb
          by_cases e : j = i
          · subst e; omega
          · exact hok j (by dsimp only at h; omega) h'
    · -- FF
      refine GC.exit ?_
      refine GE.seq_exit ?_
      refine GE.loop_exit ?_
      refine GE.block_exit ?_
      refine GE.seq ?_
      refine GC.seq ?_
      refine GC.region ?_
      refine GL.v Wmv ?_
      refine GL.v Wag ?_
      refine GL.nil ?_
      refine GE.seq ?_
      refine GC.ret ?_
      -- returns, path FF
      refine GE.ret_tmp (L' := L) (.inl rfl) rfl rfl Wsb ?_
      exact ⟨lf, rfl, by omega, by omega, fun _ => ⟨by omega, fun j h => hok j (by omega) h⟩, rfl⟩
theorem szHistory_spec (w0 : World) (L : List Asn) (A : Option Addr) (c : Nat) (ls : List LiM) (hG : RdLs w0 L A c ls) (a left : Int) (l0 : 0 ≤ left) (l1 : left ≤ 1048576) :
    Tr Try.prog 45 #[.agg #[.slice A ls.length c, .int .i64 a], .int .i64 left] w0 L (fun v L' => ∃ x : Int, v = .int .i64 x ∧ -1 ≤ x ∧ x ≤ left ∧ (0 ≤ x → SizeLs ls) ∧ L' = L) := by
  refine Tr.enter (args := [.agg #[.slice A ls.length c, .int .i64 a], .int .i64 left]) Try.func45 Try.ntmps45 rfl rfl ?_
  refine GC.seq ?_
  refine GC.region ?_
  refine GL.box_agg rfl rfl ?_; intro g2
  refine GL.v Wag ?_
  refine GL.nil ?_
  refine GE.seq ?_
  refine GC.seq ?_
  refine GC.region ?_
  refine GL.v Wfa ?_
  refine GL.v Wlb ?_
  refine GL.v Wmv ?_
  refine GL.call rfl rfl (szIntSS_spec _ _ _ _ _ (hG.imp Wim) _ l0 l1) ?_
  rintro _ _ ⟨x, rfl, x1, x2, x3, e⟩
  rw [e]; clear e
  refine GL.v Wag ?_
  refine GL.nil ?_
  refine GE.seq ?_
  refine GC.seq ?_
  refine GC.seq ?_
  refine GC.region ?_
  refine GL.v Wmv ?_
  refine GL.v Wls ?_
  refine GL.nil ?_
  refine GE.seq ?_
  refine GC.ifs (fun h1 => ?_) (fun h1 => ?_)
  · -- T
    refine GC.seq ?_
    refine GC.region ?_
    refine GL.v Wag ?_
    refine GL.nil ?_
    refine GE.seq ?_
    refine GC.ret ?_
    refine GE.seq_ret ?_
    -- returns, path T
    refine GE.ret_tmp (L' := L) (.inl rfl) rfl rfl Wsb ?_
    exact ⟨-1, rfl, by omega, by omega, fun h => by omega, rfl⟩
  · -- F
    refine GC.skip ?_
    refine GE.seq ?_
    refine GC.seq ?_
    refine GC.region ?_
    refine GL.v Wmv ?_
    refine GL.v Wag ?_
    refine GL.nil ?_
    refine GE.seq ?_
    refine GC.ret ?_
    -- returns, path F
    refine GE.ret_tmp (L' := L) (.inl rfl) rfl rfl Wsb ?_
    exact ⟨x, rfl, by omega, by omega, fun h => x3 h, rfl⟩
theorem toHistory_spec (w0 : World) (L : List Asn) (A : Option Addr) (c : Nat) (ls : List LiM) (hG : RdLs w0 L A c ls) (a : Int) (hS : SizeLs ls) :
    Tr Try.prog 46 #[.agg #[.slice A ls.length c, .int .i64 a]] w0 L (fun v L' => ∃ B ms, li ms = li ls ∧ v = .agg #[.slice B ms.length ms.length, .int .i64 a] ∧ L' = row slE B ms.length ms :: rowsA ms :: L) := by
  refine Tr.enter (args := [.agg #[.slice A ls.length c, .int .i64 a]]) Try.func46 Try.ntmps46 rfl rfl ?_
  refine GC.seq ?_
  refine GC.region ?_
  refine GL.box_agg rfl rfl ?_; intro g1
  refine GL.alloc rfl ?_; intro g2
  refine GL.nil ?_
  refine GE.seq ?_
  refine GC.seq ?_
  refine GC.region ?_
  refine GL.alloc rfl ?_; intro g3
  refine GL.nil ?_
  refine GE.seq ?_
  refine GC.seq ?_
  refine GC.region ?_
  refine GL.v Wfa ?_
  refine GL.v Wlb ?_
  refine GL.call rfl rfl (toIntSS_spec _ _ _ _ _ (by first | assumption | exact RdLs.imp (by assumption) Wim | exact RdLs.of_pick Wpk Wpk) (by assumption)) ?_
  rintro _ _ ⟨B6, ms6, hli6, rfl, rfl⟩
  refine GL.v Wfa ?_
  refine GL.store_blk rfl rfl rfl Wpk (Nat.lt_of_lt_of_le (Nat.le_of_ble_eq_true (by rfl)) (Nat.le_refl _)) (by rfl) (by rfl) ?_
  refine GL.nil ?_
  refine GE.seq ?_
  refine GC.seq ?_
  refine GC.region ?_
  refine GL.v Wfa ?_
  refine GL.v Wlb ?_
  refine GL.v Wfa ?_
  refine GL.store_blk rfl rfl rfl Wpk (Nat.lt_of_lt_of_le (Nat.le_of_ble_eq_true (by rfl)) (Nat.le_refl _)) (by rfl) (by rfl) ?_
  refine GL.nil ?_
  refine GE.seq ?_
  refine GC.seq ?_
  refine GC.region ?_
  refine GL.v Wlba ?_
  refine GL.store_varN rfl rfl rfl Wpk (by rfl) (by rfl) (by rfl) ?_
  refine GL.nil ?_
  refine GE.seq ?_
  refine GC.ret ?_
  -- returns, path 
  refine GE.ret_cell (L' := row slE B6 ms6.length ms6 :: rowsA ms6 :: L) (.inl rfl) rfl rfl rfl (BlkRd.of_pick Wpk) (by rfl) Wsb ?_
  exact ⟨_, ms6, hli6, rfl, rfl⟩
theorem markHistory_spec (w0 : World) (L : List Asn) (A : Option Addr) (c : Nat) (ls : List LiM) (a : Int) (hS : SizeLs ls) (k : Int) (h0 : 0 ≤ k) (h1 : k ≤ 1000000000000000) :
    Tr Try.prog 53 #[.agg #[.slice A ls.length c, .int .i64 a], .int .i64 k] w0 (row slE A c ls :: rowsA ls :: L) (fun v L' => v = .int .i64 (kAt k ls ls.length) ∧ L' = row slE A c (markLs k ls) :: rowsA (markLs k ls) :: L) := by
  refine Tr.enter (args := [.agg #[.slice A ls.length c, .int .i64 a], .int .i64 k]) Try.func53 Try.ntmps53 rfl rfl ?_
  refine GC.seq ?_
  refine GC.region ?_
  refine GL.box_agg rfl rfl ?_; intro g2
  refine GL.v Wag ?_
  refine GL.nil ?_
  refine GE.seq ?_
  refine GC.seq ?_
  refine GC.region ?_
  refine GL.v Wfa ?_
  refine GL.v Wlb ?_
  refine GL.v Wmv ?_
  refine GL.front (A := rowsA ls) Wpk ?_
  refine GL.front (A := row slE A c ls) Wpk ?_
  refine GL.call rfl rfl (markIntSS_spec _ _ _ _ _ hS _ h0 h1) ?_
  rintro _ _ ⟨rfl, rfl⟩
  refine GL.v Wag ?_
  refine GL.nil ?_
  refine GE.seq ?_
  refine GC.seq ?_
  refine GC.region ?_
  refine GL.v Wmv ?_
  refine GL.v Wag ?_
  refine GL.nil ?_
  refine GE.seq ?_
  refine GC.ret ?_
  -- returns, path 
  refine GE.ret_tmp (L' := row slE A c (markLs k ls) :: rowsA (markLs k ls) :: L) (.inl rfl) rfl rfl Wsb ?_
  exact ⟨rfl, rfl⟩
theorem heldHistory_spec (w0 : World) (L : List Asn) (A : Option Addr) (c n : Nat) (ls : List LiM) (a k : Int) (hG : RdLs w0 L A c (markLs k ls)) (hS : SizeLs ls) (hn : n = ls.length) (h0 : 0 ≤ k) (h1 : k ≤ 1000000000000000) :
    Tr Try.prog 54 #[.agg #[.slice A n c, .int .i64 a], .int .i64 k] w0 L (fun v L' => v = .int .i64 (kAt k ls ls.length) ∧ L' = L) := by
  have hkb := kAt_bound (k := k) hS ls.length (Nat.le_refl _)
  refine Tr.enter (args := [.agg #[.slice A n c, .int .i64 a], .int .i64 k]) Try.func54 Try.ntmps54 rfl rfl ?_
  refine GC.seq ?_
  refine GC.region ?_
  refine GL.box_agg rfl rfl ?_; intro g2
  refine GL.v Wag ?_
  refine GL.nil ?_
  refine GE.seq ?_
  refine GC.seq ?_
  refine GC.region ?_
  refine GL.v Wfa ?_
  refine GL.v Wlb ?_
  refine GL.v Wmv ?_
  refine GL.callF rfl rfl (heldIntSS_spec _ _ _ _ _ _ _ (hG.imp Wim) hS hn h0 h1) ?_
  refine GL.v Wag ?_
  refine GL.nil ?_
  refine GE.seq ?_
  refine GC.seq ?_
  refine GC.seq ?_
  refine GC.region ?_
  refine GL.v Wmv ?_
  refine GL.v Wls ?_
  refine GL.nil ?_
  refine GE.seq ?_
  refine GC.ifs (fun h1 => ?_) (fun h1 => ?_)
  · -- T
    omega
  · -- F
    refine GC.skip ?_
    refine GE.seq ?_
    refine GC.seq ?_
    refine GC.region ?_
    refine GL.v Wmv ?_
    refine GL.v Wag ?_
    refine GL.nil ?_
    refine GE.seq ?_
    refine GC.ret ?_
    -- returns, path F
    refine GE.ret_tmp (L' := L) (.inl rfl) rfl rfl Wsb ?_
    exact ⟨rfl, rfl⟩
theorem opens_ilists (W : World) : Opens Try.prog W slE (fun m => Rd W [] intE m.a m.c m.xs) := fun H enc n cs x h => by
  obtain ⟨A, c, xs, e, hR, _⟩ := open_sl (E := intE) (st := 26) (by kernel_rfl) (opens_ints W) h
  exact ⟨⟨A, c, xs⟩, e.symm, hR⟩
theorem arg_history {W : World} {H : Type} {enc : TypeId × Value → H} {base : Nat} {v : Value} {d : DataW H} {p : List MemPlace} (hval : Value.okWide Try.prog W .any base 76 v) (h : DataW.Trod enc Try.prog W 0 (fun _ => true) true 76 v d p) :
    ∃ A c ls k, v = .agg #[.slice A ls.length c, .int .i64 k] ∧ RdLs W [] A c ls := by
  obtain ⟨fs, hu⟩ := is_struct (P := Try.prog) (t := 76) (i := 0) (r := (70, 0)) (by kernel_rfl)
  obtain ⟨cs, n, x, rfl, h'⟩ := arg_agg hu hval h
  obtain ⟨hl, m0, y0, h0⟩ := trod_field (t := 76) (i := 0) (off := 0) (ty := 70) (by kernel_rfl) h'
  obtain ⟨_, m1, y1, h1⟩ := trod_field (t := 76) (i := 1) (off := 1) (ty := 3) (by kernel_rfl) h'
  rw [show Try.prog.cellsOf 70 = 1 by kernel_rfl] at h0
  rw [show Try.prog.cellsOf 3 = 1 by kernel_rfl] at h1
  rw [show Try.prog.cellsOf 76 = 2 by kernel_rfl] at hl
  obtain ⟨cl⟩ := cs
  match cl, hl with
  | [a0, a1], _ =>
    obtain ⟨A, c, ls, e, hR, hg⟩ := open_sl (E := slE) (by kernel_rfl) (opens_ilists W) h0
    obtain ⟨k, e1, _⟩ := trod_int1 (k := .i64) (by kernel_rfl) h1
    simp at e e1
    subst e e1
    exact ⟨A, c, ls, k, rfl, hR, fun i hi => hg _ (List.getElem_mem hi)⟩
end SG
