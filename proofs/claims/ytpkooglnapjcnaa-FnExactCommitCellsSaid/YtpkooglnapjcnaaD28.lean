/- Contracts: histories, of both. -/
import Derived.Test.YtpkooglnapjcnaaD11
import Derived.Test.YtpkooglnapjcnaaD26
namespace SG
open Go Go.RowKit Go.Proofs
set_option linter.unusedVariables false
set_option linter.unusedSimpArgs false
set_option maxRecDepth 100000
instance : TyOk Try.prog 125 false 1 [.nilFunc] := ⟨by kernel_rfl, by kernel_rfl⟩
/-- a history of a graph -/
noncomputable def hisB (gs : List Nd) (xss : List (List Int)) (a : Int) : Bool := validG gs && inB (xss.length : Int) 1 10 && inB a 0 ((xss.length : Int) - 1) && xss.all (cellsV gs)
theorem hisB_iff {gs : List Nd} {xss : List (List Int)} {a : Int} : hisB gs xss a = true ↔ validG gs = true ∧ (1 ≤ xss.length ∧ xss.length ≤ 10) ∧ (0 ≤ a ∧ a < xss.length) ∧ ∀ xs ∈ xss, cellsV gs xs = true := by
  unfold hisB
  simp only [Bool.and_eq_true, inB_iff, List.all_eq_true]
  constructor
  · rintro ⟨⟨⟨h1, h2⟩, h3⟩, h4⟩
    exact ⟨h1, ⟨by omega, by omega⟩, ⟨h3.1, by omega⟩, h4⟩
  · rintro ⟨h1, h2, h3, h4⟩
    exact ⟨⟨⟨h1, by omega, by omega⟩, h3.1, by omega⟩, h4⟩
/-- what a function of lists answers, wherever the state leads to L -/
def AnswersL (F : FuncId) (first captured : Array Value) (w0 : World) (L : List Asn) (ls : List LiM) (q : List Int → Bool) : Prop :=
  ∀ L1, Imp w0 L1 L → ∀ i (h : i < ls.length), Tr Try.prog F (first ++ #[.slice ls[i].a ls[i].xs.length ls[i].c] ++ captured) w0 L1 (fun v L' => v = .bool (q ls[i].xs) ∧ L' = L1)
theorem IndexFuncL_spec (w0 : World) (L : List Asn) (A : Option Addr) (c : Nat) (ls : List LiM) (hX : Rd w0 L slE A c ls) (hl : ls.length ≤ 1100000) (F : FuncId) [FnOk Try.prog F] (first captured : Array Value) (q : List Int → Bool) (hq : AnswersL F first captured w0 L ls q) :
    Tr Try.prog 139 #[.slice A ls.length c, .func (.func F) first captured] w0 L (fun v L' => ∃ k : Int, v = .int .i64 k ∧ (0 ≤ k ↔ (li ls).any q = true) ∧ L' = L) := by
  refine Tr.enter (args := [.slice A ls.length c, .func (.func F) first captured]) Try.func139 Try.ntmps139 rfl rfl ?_
  refine GC.seq ?_
  refine GC.region ?_
  refine GL.v Wag ?_
  refine GL.nil ?_
  refine GE.seq ?_
  refine GC.seq ?_
  refine GC.seq ?_
  refine GC.region ?_
  refine GL.v Wmv ?_
  refine GL.v Wln ?_
  refine GL.v Wmv ?_
  refine GL.nil ?_
  refine GE.seq ?_
  refine GC.block ?_
  -- loop 1: carried slots [8]
  refine GC.loopK (α := Nat) (fun i => i ≤ ls.length ∧ ∀ j (h : j < i) (h' : j < ls.length), q ls[j].xs = false) (fun i => [(8, .int .i64 i)]) [(0, _), (1, _), (7, _)] (fun i => L) (fun i => ls.length - i) 0 Wkp Wsb ⟨Nat.zero_le _, fun _ h => by omega⟩ ?_
  rintro i ⟨hi, hno⟩
  refine GC.seq ?_
  refine GC.region ?_
  refine GL.v Wls ?_
  refine GL.nil ?_
  refine GE.seq ?_
  refine GC.seq ?_
  refine GC.ifs (fun h1 => ?_) (fun h1 => ?_)
  · -- T
    have hil : i < ls.length := by omega
    refine GC.skip ?_
    refine GE.seq ?_
    refine GC.seq ?_
    refine GC.block ?_
    refine GC.seq ?_
    refine GC.region ?_
    refine GL.v Wmv ?_
    refine GL.v Wag ?_
    refine GL.nil ?_
    refine GE.seq ?_
    refine GC.seq ?_
    refine GC.region ?_
    refine GL.v Wmv ?_
    refine GL.v Wmv ?_
    refine GL.v Wmv ?_
    refine GL.v Wix ?_
    refine GL.v Wle ?_
    refine GL.callQ rfl rfl rfl (hq _ Imp.refl i hil) ?_
    refine GL.nil ?_
    refine GE.seq ?_
    refine GC.ifs (fun h2 => ?_) (fun h2 => ?_)
    · -- TT
      refine GC.seq ?_
      refine GC.region ?_
      refine GL.v Wmv ?_
      refine GL.v Wag ?_
      refine GL.nil ?_
      refine GE.seq ?_
      refine GC.ret ?_
      refine GE.block_ret ?_
      refine GE.seq_ret ?_
      refine GE.loop_ret ?_
      refine GE.block_ret ?_
      refine GE.seq_ret ?_
      -- returns, path TT
      refine GE.ret_tmp (L' := L) (.inl rfl) rfl rfl Wsb ?_
      exact ⟨_, rfl, ⟨fun _ => List.any_eq_true.2 ⟨ls[i].xs, List.mem_map.2 ⟨_, List.getElem_mem hil, rfl⟩, h2⟩, fun _ => by omega⟩, rfl⟩
    · -- TF
      refine GC.skip ?_
      refine GE.block ?_
      refine GE.seq ?_
      refine GC.region ?_
      refine GL.v Wad ?_
      refine GL.v Wmv ?_
      refine GL.nil ?_
      -- round of loop 1, path TF
      refine GE.round (i + 1) ⟨by omega, fun j h h' => ?_⟩ (by omega) Wkp Wsb
      by_cases e : j = i
      · subst e; exact h2
      · exact hno j (by omega) h'
  · -- F
    refine GC.exit ?_
    refine GE.seq_exit ?_
    refine GE.loop_exit ?_
    refine GE.block_exit ?_
    refine GE.seq ?_
    refine GC.seq ?_
    refine GC.region ?_
    refine GL.v Wag ?_
    refine GL.nil ?_
    refine GE.seq ?_
    refine GC.ret ?_
    -- returns, path F
    refine GE.ret_tmp (L' := L) (.inl rfl) rfl rfl Wsb ?_
    refine ⟨-1, rfl, ⟨fun h => by omega, fun h => ?_⟩, rfl⟩
    obtain ⟨x, hx, hqx⟩ := List.any_eq_true.1 h
    obtain ⟨l, hl', rfl⟩ := List.mem_map.1 hx
    obtain ⟨j, hj, rfl⟩ := List.mem_iff_getElem.1 hl'
    rw [hno j (by omega) hj] at hqx
    cases hqx
theorem ContainsFuncL_spec (w0 : World) (L : List Asn) (A : Option Addr) (c : Nat) (ls : List LiM) (hX : Rd w0 L slE A c ls) (hl : ls.length ≤ 1100000) (F : FuncId) [FnOk Try.prog F] (first captured : Array Value) (q : List Int → Bool) (hq : AnswersL F first captured w0 L ls q) :
    Tr Try.prog 96 #[.slice A ls.length c, .func (.func F) first captured] w0 L (fun v L' => v = .bool ((li ls).any q) ∧ L' = L) := by
  refine Tr.enter (args := [.slice A ls.length c, .func (.func F) first captured]) Try.func96 Try.ntmps96 rfl rfl ?_
  refine GC.seq ?_
  refine GC.region ?_
  refine GL.v Wag ?_
  refine GL.nil ?_
  refine GE.seq ?_
  refine GC.seq ?_
  refine GC.region ?_
  refine GL.v Wmv ?_
  refine GL.v Wmv ?_
  refine GL.call rfl rfl (IndexFuncL_spec _ _ _ _ _ hX hl _ _ _ _ hq) ?_
  rintro _ _ ⟨k, rfl, hk, e⟩
  rw [e]; clear e
  refine GL.v Wgq ?_
  refine GL.v Wag ?_
  refine GL.nil ?_
  refine GE.seq ?_
  refine GC.ret ?_
  -- returns, path 
  refine GE.ret_tmp (L' := L) (.inl rfl) rfl rfl Wsb ?_
  refine ⟨?_, rfl⟩
  cases ha : (li ls).any q with
  | true => rw [decide_eq_true (hk.2 ha)]
  | false => rw [decide_eq_false (fun h => by rw [hk.1 h] at ha; cases ha)]
theorem ValidHistory1_spec (w0 : World) (L : List Asn) (g : Nat) (A : Option Addr) (c : Nat) (ms : List NdM) (hG : RdG w0 L A c ms) (hl : ms.length ≤ 1100000) (hb : BlkRd w0 L g 25 [.slice A ms.length c]) (B : Option Addr) (d : Nat) (xs : List Int) (hX : Rd w0 L intE B d xs) (hx : xs.length ≤ 1100000) :
    Tr Try.prog 97 #[.slice B xs.length d, .pointer (some ⟨g, 0, none⟩)] w0 L (fun v L' => v = .bool (!cellsV (gr ms) xs) ∧ L' = L) := by
  refine Tr.enter (args := [.slice B xs.length d, .pointer (some ⟨g, 0, none⟩)]) Try.func97 Try.ntmps97 rfl rfl ?_
  refine GC.seq ?_
  refine GC.region ?_
  refine GL.v Wag ?_
  refine GL.nil ?_
  refine GE.seq ?_
  refine GC.seq ?_
  refine GC.region ?_
  refine GL.v Wlba ?_
  refine GL.v Wmv ?_
  refine GL.callF rfl rfl (iValidCells_spec _ _ _ _ _ (by first | assumption | exact RdG.imp (by assumption) Wim | exact RdG.of_pick Wpk Wpk) _ _ _ Wrd (by first | omega | exact SizeG.le (by assumption)) Wom) ?_
  refine GL.v Wnt ?_
  refine GL.v Wag ?_
  refine GL.nil ?_
  refine GE.seq ?_
  refine GC.ret ?_
  -- returns, path 
  refine GE.ret_tmp (L' := L) (.inl rfl) rfl rfl Wsb ?_
  exact ⟨rfl, rfl⟩
theorem all_not_any {xss : List (List Int)} {p : List Int → Bool} : (!(xss.any fun x => !p x)) = xss.all p := by
  induction xss with
  | nil => rfl
  | cons a l ih => simp only [List.any_cons, List.all_cons, Bool.not_or, Bool.not_not, ih]
theorem iValidHistory_spec (w0 : World) (L : List Asn) (A : Option Addr) (c : Nat) (ms : List NdM) (hG : RdG w0 L A c ms) (B : Option Addr) (d : Nat) (ls : List LiM) (hH : RdLs w0 L B d ls) (a : Int) (hl : ms.length ≤ 1100000) (hS : SizeLs ls) :
    Tr Try.prog 43 #[.agg #[.slice A ms.length c], .agg #[.slice B ls.length d, .int .i64 a]] w0 L (fun v L' => v = .bool (hisB (gr ms) (li ls) a) ∧ L' = L) := by
  have hSl := hS.1
  refine Tr.enter (args := [.agg #[.slice A ms.length c], .agg #[.slice B ls.length d, .int .i64 a]]) Try.func43 Try.ntmps43 rfl rfl ?_
  refine GC.seq ?_
  refine GC.region ?_
  refine GL.box_agg rfl rfl ?_; intro g2
  refine GL.box_agg rfl rfl ?_; intro g3
  refine GL.v Wag ?_
  refine GL.nil ?_
  refine GE.seq ?_
  refine GC.seq ?_
  refine GC.region ?_
  refine GL.v Wlba ?_
  refine GL.callF rfl rfl (iValidGraph_spec _ _ _ _ _ (by first | assumption | exact RdG.imp (by assumption) Wim | exact RdG.of_pick Wpk Wpk) (by first | omega | exact SizeG.le (by assumption))) ?_
  refine GL.v Wmv ?_
  refine GL.gs (fun h1 => ?_) (fun h1 => ?_)
  · -- t
    refine GL.want rfl rfl ?_
    refine GL.v Wfa ?_
    refine GL.want rfl rfl ?_
    refine GL.v Wlb ?_
    refine GL.want rfl rfl ?_
    refine GL.v Wln ?_
    refine GL.want rfl rfl ?_
    refine GL.callF rfl rfl (in_spec _ _ _ _ _) ?_
    refine GL.v Wpt ?_
    refine GL.v Wmv ?_
    refine GL.gs (fun h2 => ?_) (fun h2 => ?_)
    · -- tt
      refine GL.want rfl rfl ?_
      refine GL.v Wfa ?_
      refine GL.want rfl rfl ?_
      refine GL.v Wlb ?_
      refine GL.want rfl rfl ?_
      refine GL.v Wfa ?_
      refine GL.want rfl rfl ?_
      refine GL.v Wlb ?_
      refine GL.want rfl rfl ?_
      refine GL.v Wln ?_
      refine GL.want rfl rfl ?_
      refine GL.v Wsu ?_
      refine GL.want rfl rfl ?_
      refine GL.callF rfl rfl (in_spec _ _ _ _ _) ?_
      refine GL.v Wpt ?_
      refine GL.v Wmv ?_
      refine GL.gs (fun h3 => ?_) (fun h3 => ?_)
      · -- ttt
        refine GL.want rfl rfl ?_
        refine GL.v Wfa ?_
        refine GL.want rfl rfl ?_
        refine GL.v Wlb ?_
        refine GL.want rfl rfl ?_
        refine GL.v (by exact EvP.r (Ev.makeFunc rfl rfl)) ?_
        refine GL.want rfl rfl ?_
        refine GL.callF rfl rfl (ContainsFuncL_spec _ _ _ _ _ (hH.nodes.imp Wim) hSl 97 #[] #[.pointer (some ⟨g2, 0, none⟩)] (fun xs => !cellsV (gr ms) xs) (fun X hX i hi => ValidHistory1_spec _ _ g2 A c ms (hG.imp (hX.trans Wim)) hl ((BlkRd.of_pick Wpk).imp hX) _ _ _ ((hH.lists i hi).imp (hX.trans Wim)) (hS.2 i hi))) ?_
        refine GL.want rfl rfl ?_
        refine GL.v Wnt ?_
        refine GL.v Wpt ?_
        refine GL.v Wag ?_
        refine GL.nil ?_
        refine GE.seq ?_
        refine GC.ret ?_
        -- returns, path ttt
        refine GE.ret_tmp (L' := L) (.inl rfl) rfl rfl Wsb ?_
        exact ⟨by rw [all_not_any]; simp [hisB, h1, h2, h3], rfl⟩
      · -- ttf
        refine GL.unwant rfl rfl rfl rfl ?_
        refine GL.unwant rfl rfl rfl rfl ?_
        refine GL.unwant rfl rfl rfl rfl ?_
        refine GL.unwant rfl rfl rfl rfl ?_
        refine GL.unwant rfl rfl rfl rfl ?_
        refine GL.v Wpf ?_
        refine GL.v Wag ?_
        refine GL.nil ?_
        refine GE.seq ?_
        refine GC.ret ?_
        -- returns, path ttf
        refine GE.ret_tmp (L' := L) (.inl rfl) rfl rfl Wsb ?_
        exact ⟨by simp [hisB, *], rfl⟩
    · -- tf
      refine GL.unwant rfl rfl rfl rfl ?_
      refine GL.unwant rfl rfl rfl rfl ?_
      refine GL.unwant rfl rfl rfl rfl ?_
      refine GL.unwant rfl rfl rfl rfl ?_
      refine GL.unwant rfl rfl rfl rfl ?_
      refine GL.unwant rfl rfl rfl rfl ?_
      refine GL.unwant rfl rfl rfl rfl ?_
      refine GL.v Wpf ?_
      refine GL.v Wmv ?_
      refine GL.unwant rfl rfl rfl rfl ?_
      refine GL.unwant rfl rfl rfl rfl ?_
      refine GL.unwant rfl rfl rfl rfl ?_
      refine GL.unwant rfl rfl rfl rfl ?_
      refine GL.unwant rfl rfl rfl rfl ?_
      refine GL.v Wpf ?_
      refine GL.v Wag ?_
      refine GL.nil ?_
      refine GE.seq ?_
      refine GC.ret ?_
      -- returns, path tf
      refine GE.ret_tmp (L' := L) (.inl rfl) rfl rfl Wsb ?_
      exact ⟨by simp [hisB, *], rfl⟩
  · -- f
    refine GL.unwant rfl rfl rfl rfl ?_
    refine GL.unwant rfl rfl rfl rfl ?_
    refine GL.unwant rfl rfl rfl rfl ?_
    refine GL.unwant rfl rfl rfl rfl ?_
    refine GL.v Wpf ?_
    refine GL.v Wmv ?_
    refine GL.unwant rfl rfl rfl rfl ?_
    refine GL.unwant rfl rfl rfl rfl ?_
    refine GL.unwant rfl rfl rfl rfl ?_
    refine GL.unwant rfl rfl rfl rfl ?_
    refine GL.unwant rfl rfl rfl rfl ?_
    refine GL.unwant rfl rfl rfl rfl ?_
    refine GL.unwant rfl rfl rfl rfl ?_
    refine GL.v Wpf ?_
    refine GL.v Wmv ?_
    refine GL.unwant rfl rfl rfl rfl ?_
    refine GL.unwant rfl rfl rfl rfl ?_
    refine GL.unwant rfl rfl rfl rfl ?_
    refine GL.unwant rfl rfl rfl rfl ?_
    refine GL.unwant rfl rfl rfl rfl ?_
    refine GL.v Wpf ?_
    refine GL.v Wag ?_
    refine GL.nil ?_
    refine GE.seq ?_
    refine GC.ret ?_
    -- returns, path f
    refine GE.ret_tmp (L' := L) (.inl rfl) rfl rfl Wsb ?_
    exact ⟨by simp [hisB, *], rfl⟩
theorem svalidHistory_spec (w0 : World) (L : List Asn) (A : Option Addr) (c : Nat) (ms : List NdM) (hG : RdG w0 L A c ms) (B : Option Addr) (d : Nat) (ls : List LiM) (hH : RdLs w0 L B d ls) (a : Int) (hSg : SizeG ms) (hS : SizeLs ls) :
    Tr Try.prog 98 #[.agg #[.slice A ms.length c], .agg #[.slice B ls.length d, .int .i64 a]] w0 L (fun v L' => v = .bool (hisB (gr ms) (li ls) a) ∧ L' = L) := by
  have hSl := hS.1
  have hN := hH.nodes
  refine Tr.enter (args := [.agg #[.slice A ms.length c], .agg #[.slice B ls.length d, .int .i64 a]]) Try.func98 Try.ntmps98 rfl rfl ?_
  refine GC.seq ?_
  refine GC.region ?_
  refine GL.box_agg rfl rfl ?_; intro g2
  refine GL.box_agg rfl rfl ?_; intro g3
  refine GL.v Wag ?_
  refine GL.nil ?_
  refine GE.seq ?_
  refine GC.seq ?_
  refine GC.seq ?_
  refine GC.region ?_
  refine GL.v Wag ?_
  refine GL.nil ?_
  refine GE.seq ?_
  refine GC.block ?_
  -- loop 1: carried slots [5]
  refine GC.loopK (α := Nat) (fun i => i ≤ ls.length ∧ ∀ j (h : j < i) (h1 : j < ls.length), cellsOkB (gr ms) ls[j].xs = true) (fun i => [(5, .int .i64 i)]) [(2, _), (3, _)] (fun i => blk g3 72 [.slice B ls.length d, .int .i64 a] :: blk g2 25 [.slice A ms.length c] :: L) (fun i => ls.length - i) 0 Wkp Wsb ⟨Nat.zero_le _, fun _ h => by omega⟩ ?_
  rintro i ⟨hi, hok⟩
  refine GC.seq ?_
  refine GC.seq ?_
  refine GC.region ?_
  refine GL.v Wmv ?_
  refine GL.v Wfa ?_
  refine GL.v Wlb ?_
  refine GL.v Wln ?_
  refine GL.v Wls ?_
  refine GL.nil ?_
  refine GE.seq ?_
  refine GC.ifs (fun h1 => ?_) (fun h1 => ?_)
  · -- T
    have hil : i < ls.length := by omega
    have hP := hH.lists i hil
    have hSi := hS.2 i hil
    refine GC.skip ?_
    refine GE.seq ?_
    refine GC.seq ?_
    refine GC.block ?_
    refine GC.seq ?_
    refine GC.region_quiet mixed (by kernel_rfl) ?_
    refine GL.v Wlba ?_
    refine GL.v Wfa ?_
    refine GL.v Wlb ?_
    refine GL.v Wmv ?_
    refine GL.v Wix ?_
    refine GL.v Wle ?_
    refine GL.callF rfl rfl (svalidCells_spec _ _ _ _ _ (by first | assumption | exact RdG.imp (by assumption) Wim | exact RdG.of_pick Wpk Wpk) _ _ _ Wrd Wom) ?_
    refine GL.v Wnt ?_
    refine GL.nil ?_
    refine GE.seq ?_
    refine GC.ifs (fun h2 => ?_) (fun h2 => ?_)
    · -- TT
      refine GC.seq ?_
      refine GC.region ?_
      refine GL.v Wag ?_
      refine GL.nil ?_
      refine GE.seq ?_
      refine GC.ret ?_
      refine GE.block_ret ?_
      refine GE.seq_ret ?_
      refine GE.loop_ret ?_
      refine GE.block_ret ?_
      refine GE.seq_ret ?_
      -- returns, path TT
      refine GE.ret_tmp (L' := L) (.inl rfl) rfl rfl Wsb ?_
      refine ⟨?_, rfl⟩
      cases hb : hisB (gr ms) (li ls) a with
      | false => rfl
      | true =>
        have := (cellsV_iff.1 ((hisB_iff.1 hb).2.2.2 ls[i].xs (List.mem_map.2 ⟨_, List.getElem_mem hil, rfl⟩))).2
        rw [cellsOkB_iff.2 this] at h2; cases h2
    · -- TF
      refine GC.skip ?_
      refine GE.block ?_
      refine GE.seq ?_
      refine GC.region ?_
      refine GL.v Wmv ?_
      refine GL.v Wad ?_
      refine GL.v Wag ?_
      refine GL.nil ?_
      -- round of loop 1, path TF
      refine GE.round (i + 1) ⟨by omega, fun j h h1 => ?_⟩ (by omega) Wkp Wsb
      by_cases e : j = i
      · subst e; exact h2
      · exact hok j (by omega) h1
  · -- F
    have hall : ∀ xs ∈ li ls, cellsOkB (gr ms) xs = true := by
      intro xs hxs
      obtain ⟨l, hl', rfl⟩ := List.mem_map.1 hxs
      obtain ⟨j, hj, rfl⟩ := List.mem_iff_getElem.1 hl'
      exact hok j (by omega) hj
    refine GC.exit ?_
    refine GE.seq_exit ?_
    refine GE.loop_exit ?_
    refine GE.block_exit ?_
    refine GE.seq ?_
    refine GC.seq ?_
    refine GC.region ?_
    refine GL.v Wlba ?_
    refine GL.callF rfl rfl (svalidGraph_spec _ _ _ _ _ (by first | assumption | exact RdG.imp (by assumption) Wim | exact RdG.of_pick Wpk Wpk) (by assumption)) ?_
    refine GL.v Wmv ?_
    refine GL.gs (fun h2 => ?_) (fun h2 => ?_)
    · -- Ft
      have hall2 : (li ls).all (cellsV (gr ms)) = true := List.all_eq_true.2 fun xs hx => by rw [cellsV, h2, hall xs hx]; rfl
      refine GL.want rfl rfl ?_
      refine GL.v Wfa ?_
      refine GL.want rfl rfl ?_
      refine GL.v Wlb ?_
      refine GL.want rfl rfl ?_
      refine GL.v Wln ?_
      refine GL.want rfl rfl ?_
      refine GL.callF rfl rfl (inRange_spec _ _ _ _ _) ?_
      refine GL.v Wpt ?_
      refine GL.v Wmv ?_
      refine GL.gs (fun h3 => ?_) (fun h3 => ?_)
      · -- Ftt
        refine GL.want rfl rfl ?_
        refine GL.v Wfa ?_
        refine GL.want rfl rfl ?_
        refine GL.v Wlb ?_
        refine GL.want rfl rfl ?_
        refine GL.v Wfa ?_
        refine GL.want rfl rfl ?_
        refine GL.v Wlb ?_
        refine GL.want rfl rfl ?_
        refine GL.v Wln ?_
        refine GL.want rfl rfl ?_
        refine GL.v Wsu ?_
        refine GL.want rfl rfl ?_
        refine GL.callF rfl rfl (inRange_spec _ _ _ _ _) ?_
        refine GL.v Wpt ?_
        refine GL.v Wag ?_
        refine GL.nil ?_
        refine GE.seq ?_
        refine GC.ret ?_
        -- returns, path Ftt
        refine GE.ret_tmp (L' := L) (.inl rfl) rfl rfl Wsb ?_
        exact ⟨by simp only [hisB, li_length, h2, h3, hall2]; simp, rfl⟩
      · -- Ftf
        refine GL.unwant rfl rfl rfl rfl ?_
        refine GL.unwant rfl rfl rfl rfl ?_
        refine GL.unwant rfl rfl rfl rfl ?_
        refine GL.unwant rfl rfl rfl rfl ?_
        refine GL.unwant rfl rfl rfl rfl ?_
        refine GL.unwant rfl rfl rfl rfl ?_
        refine GL.unwant rfl rfl rfl rfl ?_
        refine GL.v Wpf ?_
        refine GL.v Wag ?_
        refine GL.nil ?_
        refine GE.seq ?_
        refine GC.ret ?_
        -- returns, path Ftf
        refine GE.ret_tmp (L' := L) (.inl rfl) rfl rfl Wsb ?_
        exact ⟨by simp [hisB, *], rfl⟩
    · -- Ff
      refine GL.unwant rfl rfl rfl rfl ?_
      refine GL.unwant rfl rfl rfl rfl ?_
      refine GL.unwant rfl rfl rfl rfl ?_
      refine GL.unwant rfl rfl rfl rfl ?_
      refine GL.v Wpf ?_
      refine GL.v Wmv ?_
      refine GL.unwant rfl rfl rfl rfl ?_
      refine GL.unwant rfl rfl rfl rfl ?_
      refine GL.unwant rfl rfl rfl rfl ?_
      refine GL.unwant rfl rfl rfl rfl ?_
      refine GL.unwant rfl rfl rfl rfl ?_
      refine GL.unwant rfl rfl rfl rfl ?_
      refine GL.unwant rfl rfl rfl rfl ?_
      refine GL.v Wpf ?_
      refine GL.v Wag ?_
      refine GL.nil ?_
      refine GE.seq ?_
      refine GC.ret ?_
      -- returns, path Ff
      refine GE.ret_tmp (L' := L) (.inl rfl) rfl rfl Wsb ?_
      exact ⟨by simp [hisB, *], rfl⟩
end SG
