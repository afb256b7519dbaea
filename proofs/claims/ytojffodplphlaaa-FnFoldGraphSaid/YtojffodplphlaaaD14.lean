/- Contracts: run, valuesFit, ValueOf of the program. -/
import Derived.Test.YtojffodplphlaaaD12
namespace SG
open Go Go.RowKit Go.Proofs
set_option linter.unusedVariables false
set_option linter.unusedSimpArgs false
set_option maxRecDepth 100000
def HasRead (ps : List Part) (n : Int) : Prop := ∃ p ∈ ps, p.kind = 1 ∧ p.n = n
/-- what a function that gives nodes their values does, wherever the state leads to L -/
def Gives (F : FuncId) (first captured : Array Value) (w0 : World) (L : List Asn) (ok : Int → Prop) (vals : Int → Int) : Prop :=
  ∀ X, Imp w0 X L → ∀ n, ok n → Tr Try.prog F (first ++ #[.int .i64 n] ++ captured) w0 X (fun v L' => v = .int .i64 (vals n) ∧ L' = X)
theorem run_spec (w0 : World) (L : List Asn) (A : Option Addr) (c : Nat) (ps : List Part) (hR : Rd w0 L partE A c ps) (hv : ValidP ps)
    (F : FuncId) [FnOk Try.prog F] (first captured : Array Value) (vals : Int → Int) (hF : Gives F first captured w0 L (HasRead ps) vals) (hvals : ∀ p ∈ ps, p.kind = 1 → InMod (vals p.n)) :
    Tr Try.prog 81 #[.agg #[.slice A ps.length c], .func (.func F) first captured] w0 L (fun v L' => ∃ B, v = .tuple #[.int .i64 (valL ps vals), .slice B (readL ps vals).length (readL ps vals).length] ∧ L' = row intE B (readL ps vals).length (readL ps vals) :: L) := by
  have hl1 := hv.1
  have hl2 := hv.2.1
  have hpow : ([] : List Int).length + 2 ^ (ps.length - 1 + 1) ≤ 10000 := by
    have := Nat.pow_le_pow_right (show 0 < 2 by decide) (show ps.length - 1 + 1 ≤ 12 by omega)
    simp only [List.length_nil]; omega
  refine Tr.enter (args := [.agg #[.slice A ps.length c], .func (.func F) first captured]) Try.func81 Try.ntmps81 rfl rfl ?_
  refine GC.seq ?_
  refine GC.region ?_
  refine GL.box_agg rfl rfl ?_; intro g2
  refine GL.box_one rfl rfl rfl ?_; intro g3
  refine GL.v Wag ?_
  refine GL.v Wag ?_
  refine GL.nil ?_
  refine GE.seq ?_
  refine GC.seq ?_
  refine GC.region ?_
  refine GL.alloc rfl ?_; intro g6
  refine GL.nil ?_
  refine GE.seq ?_
  refine GC.seq ?_
  refine GC.region_any #[false, false, true, false, true, false] mixed ?_
  refine GA.read 0 #[false, true, true, true, false, false] rfl (by exact Wlba) rfl rfl (by kernel_rfl) rfl (by kernel_rfl) (by kernel_rfl) (fun _ _ _ h => h) ?_
  refine GA.read 1 #[true, false, false, true, false, false] rfl (by exact Wlba) rfl rfl (by kernel_rfl) rfl (by kernel_rfl) (by kernel_rfl) (fun _ _ _ h => h) ?_
  refine GA.take 3 #[true, true, true, false, false, false] rfl (by exact Ev.makeFunc rfl rfl) rfl rfl (by kernel_rfl) rfl (by kernel_rfl) (by kernel_rfl) (fun _ _ _ h => h) ?_
  refine GA.branch (rs := [2]) (JOk.live (by exact Wlba) (JOk.live (by exact Wlba) JOk.nil)) (by kernel_rfl) (by simp) ?_
  refine GAs.cons rfl ?_ ?_
  · --  op 2
    refine GL.callF rfl rfl (last_spec _ _ _ _ _ (by omega)) ?_
    refine GL.nil ?_
    refine GE.any ?_
    refine GA.branch (rs := [4]) (JOk.dead (by kernel_rfl) (JOk.live (by exact Wlba) JOk.nil)) (by kernel_rfl) (by simp) ?_
    refine GAs.cons rfl ?_ ?_
    · --  op 4
      refine GL.row0 intE none ?_
      refine GL.front (A := blk g6 26 _) Wpk ?_
      refine GL.front (A := row intE none 0 []) Wpk ?_
      refine GL.front (A := blk g6 26 _) Wpk ?_
      refine GL.call rfl rfl (eval_spec w0 _ A c ps (hR.imp Wim) hv.2.2.1 hl2 127 #[] #[.pointer (some ⟨g6, 0, none⟩), .pointer (some ⟨g3, 0, none⟩)] g6 vals (run1_spec w0 _ F first captured vals _ g3 g6 (fun Y hY n hn => hF Y (hY.trans Wim) n hn) (BlkRd.of_pick Wpk)) hvals (ps.length - 1) (by omega) _ Imp.refl [] none 0 hpow _ (by omega)) ?_
      rintro _ _ ⟨rfl, B1, d1, rfl⟩
      refine GL.row_cap (E := intE) (A := B1) Wpk fun hc1 hc2 => ?_
      refine GL.nil ?_
      refine GE.any ?_
      refine GA.take 5 #[true, true, true, true, true, false] rfl (by exact Ev.assign rfl) rfl rfl (by kernel_rfl) rfl (by kernel_rfl) (by kernel_rfl) (fun _ _ _ h => h) ?_
      refine GA.done (JOk.dead (by kernel_rfl) (JOk.dead (by kernel_rfl) JOk.nil)) (by kernel_rfl) ?_
      refine GE.seq ?_
      refine GC.seq ?_
      refine GC.region ?_
      refine GL.v Wmv ?_
      refine GL.v Wlb ?_
      refine GL.callF rfl rfl (ClipInt_spec _ _ _ _ _ Wom) ?_
      refine GL.row_clip (E := intE) (A := B1) Wpk ?_
      refine GL.v Wag ?_
      refine GL.v Wag ?_
      refine GL.nil ?_
      refine GE.seq ?_
      refine GC.ret ?_
      -- returns, path 
      refine GE.ret_tmp2 (L' := row intE B1 (readL ps vals).length (readL ps vals) :: L) (.inl rfl) rfl rfl rfl Wsb ?_
      exact ⟨B1, rfl, rfl⟩
    exact GAs.nil
  exact GAs.nil
theorem valuesFit1_spec (w0 : World) (L : List Asn) (n : Int) : Tr Try.prog 124 #[.int .i64 n] w0 L (fun v L' => v = .bool (!inB n 0 999) ∧ L' = L) := by
  refine Tr.enter (args := [.int .i64 n]) Try.func124 Try.ntmps124 rfl rfl ?_
  refine GC.seq ?_
  refine GC.region ?_
  refine GL.v Wag ?_
  refine GL.nil ?_
  refine GE.seq ?_
  refine GC.seq ?_
  refine GC.region ?_
  refine GL.v Wmv ?_
  refine GL.callF rfl rfl (in_spec _ _ _ _ _) ?_
  refine GL.v Wnt ?_
  refine GL.v Wag ?_
  refine GL.nil ?_
  refine GE.seq ?_
  refine GC.ret ?_
  -- returns, path 
  refine GE.ret_tmp (L' := L) (.inl rfl) rfl rfl Wsb ?_
  exact ⟨rfl, rfl⟩
theorem valuesFit2_spec (w0 : World) (L : List Asn) (n : Int) (g : Nat) (B : Option Addr) (k d : Nat) (hb : BlkRd w0 L g 26 [.slice B k d]) : Tr Try.prog 125 #[.int .i64 n, .pointer (some ⟨g, 0, none⟩)] w0 L (fun v L' => v = .bool (decide ((k : Int) ≤ n)) ∧ L' = L) := by
  refine Tr.enter (args := [.int .i64 n, .pointer (some ⟨g, 0, none⟩)]) Try.func125 Try.ntmps125 rfl rfl ?_
  refine GC.seq ?_
  refine GC.region ?_
  refine GL.v Wag ?_
  refine GL.nil ?_
  refine GE.seq ?_
  refine GC.seq ?_
  refine GC.region ?_
  refine GL.v Wmv ?_
  refine GL.v Wlb ?_
  refine GL.v Wln ?_
  refine GL.v Wgq ?_
  refine GL.v Wag ?_
  refine GL.nil ?_
  refine GE.seq ?_
  refine GC.ret ?_
  -- returns, path 
  refine GE.ret_tmp (L' := L) (.inl rfl) rfl rfl Wsb ?_
  exact ⟨rfl, rfl⟩
theorem ValueOf1_spec (w0 : World) (L : List Asn) (n : Int) (g : Nat) (B : Option Addr) (d : Nat) (xs : List Int) (hb : BlkRd w0 L g 26 [.slice B xs.length d]) (hX : Rd w0 L intE B d xs) (h0 : 0 ≤ n) (h1 : n < xs.length) : Tr Try.prog 112 #[.int .i64 n, .pointer (some ⟨g, 0, none⟩)] w0 L (fun v L' => v = .int .i64 (valF xs n) ∧ L' = L) := by
  refine Tr.enter (args := [.int .i64 n, .pointer (some ⟨g, 0, none⟩)]) Try.func112 Try.ntmps112 rfl rfl ?_
  refine GC.seq ?_
  refine GC.region ?_
  refine GL.v Wag ?_
  refine GL.nil ?_
  refine GE.seq ?_
  refine GC.seq ?_
  refine GC.region ?_
  refine GL.v Wlb ?_
  refine GL.v Wmv ?_
  refine GL.v Wix ?_
  refine GL.v Wle ?_
  refine GL.v Wag ?_
  refine GL.nil ?_
  refine GE.seq ?_
  refine GC.ret ?_
  -- returns, path 
  refine GE.ret_tmp (L' := L) (.inl rfl) rfl rfl Wsb ?_
  exact ⟨by rw [at0_eq]; rfl, rfl⟩
theorem valuesFit_spec (w0 : World) (L : List Asn) (A : Option Addr) (c : Nat) (ps : List Part) (hR : Rd w0 L partE A c ps) (B : Option Addr) (d : Nat) (xs : List Int) (hX : Rd w0 L intE B d xs) (hl : xs.length ≤ 1100000) :
    Tr Try.prog 80 #[.agg #[.slice A ps.length c], .slice B xs.length d] w0 L (fun v L' => v = .bool (fitV ps xs) ∧ L' = L) := by
  refine Tr.enter (args := [.agg #[.slice A ps.length c], .slice B xs.length d]) Try.func80 Try.ntmps80 rfl rfl ?_
  refine GC.seq ?_
  refine GC.region ?_
  refine GL.box_agg rfl rfl ?_; intro g2
  refine GL.box_one rfl rfl rfl ?_; intro g3
  refine GL.v Wag ?_
  refine GL.nil ?_
  refine GE.seq ?_
  refine GC.seq ?_
  refine GC.seq ?_
  refine GC.region ?_
  refine GL.v Wlba ?_
  refine GL.callF rfl rfl (ValidFormula_spec _ _ _ _ _ Wrd) ?_
  refine GL.v Wnt ?_
  refine GL.v Wmv ?_
  refine GL.gs (fun h1 => ?_) (fun h1 => ?_)
  · -- t
    refine GL.unwant rfl rfl rfl rfl ?_
    refine GL.unwant rfl rfl rfl rfl ?_
    refine GL.unwant rfl rfl rfl rfl ?_
    refine GL.v Wpt ?_
    refine GL.v Wmv ?_
    refine GL.unwant rfl rfl rfl rfl ?_
    refine GL.unwant rfl rfl rfl rfl ?_
    refine GL.v Wpt ?_
    refine GL.nil ?_
    refine GE.seq ?_
    refine GC.cond_true rfl ?_
    refine GC.seq ?_
    refine GC.region ?_
    refine GL.v Wag ?_
    refine GL.nil ?_
    refine GE.seq ?_
    refine GC.ret ?_
    refine GE.seq_ret ?_
    -- returns, path t
    refine GE.ret_tmp (L' := L) (.inl rfl) rfl rfl Wsb ?_
    exact ⟨by rw [fitV_not.2 (fun h => validF_not.1 h1 h.1)], rfl⟩
  · -- f
    refine GL.want rfl rfl ?_
    refine GL.v Wlb ?_
    refine GL.want rfl rfl ?_
    refine GL.v Wln ?_
    refine GL.want rfl rfl ?_
    refine GL.v Wgt ?_
    refine GL.v Wpf ?_
    refine GL.v Wmv ?_
    refine GL.gs (fun h2 => ?_) (fun h2 => ?_)
    · -- ft
      refine GL.unwant rfl rfl rfl rfl ?_
      refine GL.unwant rfl rfl rfl rfl ?_
      refine GL.v Wpt ?_
      refine GL.nil ?_
      refine GE.seq ?_
      refine GC.cond_true rfl ?_
      refine GC.seq ?_
      refine GC.region ?_
      refine GL.v Wag ?_
      refine GL.nil ?_
      refine GE.seq ?_
      refine GC.ret ?_
      refine GE.seq_ret ?_
      -- returns, path ft
      refine GE.ret_tmp (L' := L) (.inl rfl) rfl rfl Wsb ?_
      exact ⟨by rw [fitV_not.2 (fun h => by have := h.2.1; omega)], rfl⟩
    · -- ff
      refine GL.want rfl rfl ?_
      refine GL.v Wlb ?_
      refine GL.want rfl rfl ?_
      refine GL.callF rfl rfl (ContainsFunc_spec _ _ _ _ _ Wrd hl _ _ _ _ (fun L1 _ x _ => valuesFit1_spec _ _ _)) ?_
      refine GL.v Wpf ?_
      refine GL.nil ?_
      refine GE.seq ?_
      refine GC.ifs (fun h3 => ?_) (fun h3 => ?_)
      · -- ffT
        refine GC.seq ?_
        refine GC.region ?_
        refine GL.v Wag ?_
        refine GL.nil ?_
        refine GE.seq ?_
        refine GC.ret ?_
        refine GE.seq_ret ?_
        -- returns, path ffT
        refine GE.ret_tmp (L' := L) (.inl rfl) rfl rfl Wsb ?_
        exact ⟨by rw [fitV_not.2 (fun h => by rw [any_not_in.2 h.2.2.1] at h3; cases h3)], rfl⟩
      · -- ffF
        have hv := validF_iff.1 h1
        have hpl := hv.2.1
        have hfit := hv.fit
        have hml := mayL_length ps
        refine GC.skip ?_
        refine GE.seq ?_
        refine GC.seq ?_
        refine GC.region ?_
        refine GL.v Wlba ?_
        refine GL.call rfl rfl (mayRead_spec _ _ _ _ _ Wrd Wom (by assumption)) ?_
        rintro _ _ ⟨B18, rfl, rfl⟩
        refine GL.v (by exact EvP.r (Ev.makeFunc rfl rfl)) ?_
        refine GL.callF rfl rfl (ContainsFunc_spec _ _ _ _ _ Wrd Wom _ _ _ _ (fun L1 hi x _ => valuesFit2_spec _ _ _ g3 B xs.length d ((BlkRd.of_pick Wpk).imp hi))) ?_
        refine GL.v Wnt ?_
        refine GL.v Wag ?_
        refine GL.nil ?_
        refine GE.seq ?_
        refine GC.ret ?_
        -- returns, path ffF
        refine GE.ret_tmp (L' := L) (.inl rfl) rfl rfl Wsb ?_
        refine ⟨?_, rfl⟩
        have e : (!((mayL ps).any fun n => decide ((xs.length : Int) ≤ n))) = fitV ps xs := by
          cases hf : fitV ps xs with
          | true =>
            have := (fitV_iff.1 hf).2.2.2
            rw [Bool.not_eq_true', List.any_eq_false]
            intro x hx
            have := this x hx
            simp only [decide_eq_true_eq]; omega
          | false =>
            rw [Bool.not_eq_false', List.any_eq_true]
            refine Classical.byContradiction fun hno => fitV_not.1 hf ⟨hv, by omega, any_not_in.1 h3, fun k hk => ?_⟩
            refine Classical.byContradiction fun hk' => hno ⟨k, hk, by simp only [decide_eq_true_eq]; omega⟩
        rw [← e]
theorem FitV.give {ps : List Part} {xs : List Int} (h : FitV ps xs) {n : Int} (hn : HasRead ps n) : 0 ≤ n ∧ n < xs.length := by
  obtain ⟨p, hp, hk, rfl⟩ := hn
  have := h.1.fit p hp hk
  exact ⟨this.1, h.2.2.2 _ (mem_mayL.2 ⟨this, p, hp, hk, rfl⟩)⟩
theorem FitV.vals {ps : List Part} {xs : List Int} (h : FitV ps xs) : ∀ p ∈ ps, p.kind = 1 → InMod (valF xs p.n) := by
  intro p hp hk
  have := h.give ⟨p, hp, hk, rfl⟩
  have h2 := h.2.2.1 (xs[p.n.toNat]'(by omega)) (List.getElem_mem _)
  rw [at0_eq] at h2
  exact h2
theorem ValueOf_spec (w0 : World) (L : List Asn) (A : Option Addr) (c : Nat) (ps : List Part) (hR : Rd w0 L partE A c ps) (B : Option Addr) (d : Nat) (xs : List Int) (hX : Rd w0 L intE B d xs) (hl : xs.length ≤ 1100000) :
    Tr Try.prog 55 #[.agg #[.slice A ps.length c], .slice B xs.length d] w0 L (fun v L' => v = .tuple #[.int .i64 (if fitV ps xs then valL ps (valF xs) else 0), .bool (fitV ps xs)] ∧ L' = L) := by
  refine Tr.enter (args := [.agg #[.slice A ps.length c], .slice B xs.length d]) Try.func55 Try.ntmps55 rfl rfl ?_
  refine GC.seq ?_
  refine GC.region ?_
  refine GL.box_agg rfl rfl ?_; intro g2
  refine GL.box_one rfl rfl rfl ?_; intro g3
  refine GL.v Wag ?_
  refine GL.v Wag ?_
  refine GL.nil ?_
  refine GE.seq ?_
  refine GC.seq ?_
  refine GC.seq ?_
  refine GC.region ?_
  refine GL.v Wlba ?_
  refine GL.v Wlb ?_
  refine GL.callF rfl rfl (valuesFit_spec _ _ _ _ _ Wrd _ _ _ Wrd Wom) ?_
  refine GL.v Wnt ?_
  refine GL.nil ?_
  refine GE.seq ?_
  refine GC.ifs (fun h1 => ?_) (fun h1 => ?_)
  · -- T
    refine GC.seq ?_
    refine GC.region ?_
    refine GL.v Wag ?_
    refine GL.v Wag ?_
    refine GL.nil ?_
    refine GE.seq ?_
    refine GC.ret ?_
    refine GE.seq_ret ?_
    -- returns, path T
    refine GE.ret_tmp2 (L' := L) (.inl rfl) rfl rfl rfl Wsb ?_
    exact ⟨by rw [h1]; rfl, rfl⟩
  · -- F
    have hf := fitV_iff.1 h1
    refine GC.skip ?_
    refine GE.seq ?_
    refine GC.seq ?_
    refine GC.region ?_
    refine GL.v Wlba ?_
    refine GL.v (by exact EvP.r (Ev.makeFunc rfl rfl)) ?_
    refine GL.call rfl rfl (run_spec w0 _ A c ps (hR.imp Wim) hf.1 _ _ _ (valF xs) (fun Y hY n hn => ValueOf1_spec _ _ _ g3 B d xs ((BlkRd.of_pick Wpk).imp hY) ((hX.imp Wim).imp hY) (hf.give hn).1 (hf.give hn).2) hf.vals) ?_
    rintro _ _ ⟨B1, rfl, rfl⟩
    refine GL.v Wmv ?_
    refine GL.v Wxt ?_
    refine GL.v Wxt ?_
    refine GL.v Wag ?_
    refine GL.v Wag ?_
    refine GL.nil ?_
    refine GE.seq ?_
    refine GC.seq ?_
    refine GC.region ?_
    refine GL.v Wmv ?_
    refine GL.v Wag ?_
    refine GL.v Wag ?_
    refine GL.nil ?_
    refine GE.seq ?_
    refine GC.ret ?_
    -- returns, path F
    refine GE.ret_tmp2 (L' := L) (.inl rfl) rfl rfl rfl Wsb ?_
    exact ⟨by rw [h1]; rfl, rfl⟩
end SG
