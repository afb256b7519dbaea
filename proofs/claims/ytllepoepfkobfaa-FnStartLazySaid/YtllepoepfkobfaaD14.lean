/- Contracts: run, valuesFit, ValueOf of the program. -/
import Derived.Test.YtllepoepfkobfaaD12
namespace SG
open Go Go.RowKit Go.Proofs
set_option linter.unusedVariables false
set_option linter.unusedSimpArgs false
set_option maxRecDepth 100000
def HasRead (ps : List Part) (n : Int) : Prop := ∃ p ∈ ps, p.kind = 1 ∧ p.n = n
/-- what a function that gives nodes their values does, wherever the state leads to L -/
def Gives (F : FuncId) (first captured : Array Value) (w0 : World) (L : List Asn) (ok : Int → Prop) (vals : Int → Int) : Prop :=
  ∀ X, Imp w0 X L → ∀ n, ok n → Tr Try.prog F (first ++ #[.int .i64 n] ++ captured) w0 X (fun v L' => v = .int .i64 (vals n) ∧ L' = X)
theorem run_spec (w0 : World) (L : List Asn) (A : Option Addr) (c : Nat) (ps : List Part) (hR : Rd w0 L partE A c ps) (hv : ValidP ps)
    (F : FuncId) [FnOk Try.prog F] (first captured : Array Value) (vals : Int → Int) (hF : Gives F first captured w0 L (HasRead ps) vals) (hvals : ∀ p ∈ ps, p.kind = 1 → InMod (vals p.n)) :
    Tr Try.prog 127 #[.agg #[.slice A ps.length c], .func (.func F) first captured] w0 L (fun v L' => ∃ B, v = .tuple #[.int .i64 (valL ps vals), .slice B (readL ps vals).length (readL ps vals).length] ∧ L' = row intE B (readL ps vals).length (readL ps vals) :: L) := by
  have hl1 := hv.1
  have hl2 := hv.2.1
  have hpow : ([] : List Int).length + 2 ^ (ps.length - 1 + 1) ≤ 10000 := by
    have := Nat.pow_le_pow_right (show 0 < 2 by decide) (show ps.length - 1 + 1 ≤ 12 by omega)
    simp only [List.length_nil]; omega
  refine Tr.enter (args := [.agg #[.slice A ps.length c], .func (.func F) first captured]) Try.func127 Try.ntmps127 rfl rfl ?_
  refine GC.seq ?_
  refine GC.region ?_
  refine GL.box_agg rfl rfl ?_; intro g2
  refine GL.box_one rfl rfl rfl ?_; intro g3
  refine GL.v Wag ?_
  refine GL.v Wag ?_
  refine GL.nil ?_
  refine GE.seq ?_
  refine GC.seq ?_
  refine GC.region ?_
  refine GL.alloc rfl ?_; intro g6
  refine GL.nil ?_
  refine GE.seq ?_
  refine GC.seq ?_
  refine GC.region_any #[false, false, true, false, true, false] mixed ?_
  refine GA.read 0 #[false, true, true, true, false, false] rfl (by exact Wlba) rfl rfl (by kernel_rfl) rfl (by kernel_rfl) (by kernel_rfl) (fun _ _ _ h => h) ?_
  refine GA.read 1 #[true, false, false, true, false, false] rfl (by exact Wlba) rfl rfl (by kernel_rfl) rfl (by kernel_rfl) (by kernel_rfl) (fun _ _ _ h => h) ?_
  refine GA.take 3 #[true, true, true, false, false, false] rfl (by exact Ev.makeFunc rfl rfl) rfl rfl (by kernel_rfl) rfl (by kernel_rfl) (by kernel_rfl) (fun _ _ _ h => h) ?_
  refine GA.branch (rs := [2]) (JOk.live (by exact Wlba) (JOk.live (by exact Wlba) JOk.nil)) (by kernel_rfl) (by simp) ?_
  refine GAs.cons rfl ?_ ?_
  · --  op 2
    refine GL.callF rfl rfl (last_spec _ _ _ _ _ (by omega)) ?_
    refine GL.nil ?_
    refine GE.any ?_
    refine GA.branch (rs := [4]) (JOk.dead (by kernel_rfl) (JOk.live (by exact Wlba) JOk.nil)) (by kernel_rfl) (by simp) ?_
    refine GAs.cons rfl ?_ ?_
    · --  op 4
      refine GL.row0 intE none ?_
      refine GL.front (A := blk g6 47 _) Wpk ?_
      refine GL.front (A := row intE none 0 []) Wpk ?_
      refine GL.front (A := blk g6 47 _) Wpk ?_
      refine GL.call rfl rfl (eval_spec w0 _ A c ps (hR.imp Wim) hv.2.2.1 hl2 140 #[] #[.pointer (some ⟨g6, 0, none⟩), .pointer (some ⟨g3, 0, none⟩)] g6 vals (run1_spec w0 _ F first captured vals _ g3 g6 (fun Y hY n hn => hF Y (hY.trans Wim) n hn) (BlkRd.of_pick Wpk)) hvals (ps.length - 1) (by omega) _ Imp.refl [] none 0 hpow _ (by omega)) ?_
      rintro _ _ ⟨rfl, B1, d1, rfl⟩
      refine GL.row_cap (E := intE) (A := B1) Wpk fun hc1 hc2 => ?_
      refine GL.nil ?_
      refine GE.any ?_
      refine GA.take 5 #[true, true, true, true, true, false] rfl (by exact Ev.assign rfl) rfl rfl (by kernel_rfl) rfl (by kernel_rfl) (by kernel_rfl) (fun _ _ _ h => h) ?_
      refine GA.done (JOk.dead (by kernel_rfl) (JOk.dead (by kernel_rfl) JOk.nil)) (by kernel_rfl) ?_
      refine GE.seq ?_
      refine GC.seq ?_
      refine GC.region ?_
      refine GL.v Wmv ?_
      refine GL.v Wlb ?_
      refine GL.callF rfl rfl (ClipInt_spec _ _ _ _ _ Wom) ?_
      refine GL.row_clip (E := intE) (A := B1) Wpk ?_
      refine GL.v Wag ?_
      refine GL.v Wag ?_
      refine GL.nil ?_
      refine GE.seq ?_
      refine GC.ret ?_
      -- returns, path 
      refine GE.ret_tmp2 (L' := row intE B1 (readL ps vals).length (readL ps vals) :: L) (.inl rfl) rfl rfl rfl Wsb ?_
      exact ⟨B1, rfl, rfl⟩
    exact GAs.nil
  exact GAs.nil
theorem FitV.give {ps : List Part} {xs : List Int} (h : FitV ps xs) {n : Int} (hn : HasRead ps n) : 0 ≤ n ∧ n < xs.length := by
  obtain ⟨p, hp, hk, rfl⟩ := hn
  have := h.1.fit p hp hk
  exact ⟨this.1, h.2.2.2 _ (mem_mayL.2 ⟨this, p, hp, hk, rfl⟩)⟩
theorem FitV.vals {ps : List Part} {xs : List Int} (h : FitV ps xs) : ∀ p ∈ ps, p.kind = 1 → InMod (valF xs p.n) := by
  intro p hp hk
  have := h.give ⟨p, hp, hk, rfl⟩
  have h2 := h.2.2.1 (xs[p.n.toNat]'(by omega)) (List.getElem_mem _)
  rw [at0_eq] at h2
  exact h2
end SG
