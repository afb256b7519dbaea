/- Contracts: the program's value of a formula, and what it reads. -/
import Derived.Test.YtllepoepfkobfaaD11
import Derived.Test.YtllepoepfkobfaaPA
namespace SG
open Go Go.RowKit Go.Proofs
set_option linter.unusedVariables false
set_option linter.unusedSimpArgs false
set_option maxRecDepth 100000
instance : TyOk Try.prog 126 false 1 [.nilFunc] := ⟨by kernel_rfl, by kernel_rfl⟩
theorem Index_spec (w0 : World) (L : List Asn) (A : Option Addr) (c : Nat) (xs : List Int) (hX : Rd w0 L intE A c xs) (hl : xs.length ≤ 1100000) (n : Int) :
    Tr Try.prog 126 #[.slice A xs.length c, .int .i64 n] w0 L (fun v L' => ∃ k : Int, v = .int .i64 k ∧ (0 ≤ k ↔ xs.contains n = true) ∧ L' = L) := by
  refine Tr.enter (args := [.slice A xs.length c, .int .i64 n]) Try.func126 Try.ntmps126 rfl rfl ?_
  refine GC.seq ?_
  refine GC.region ?_
  refine GL.v Wag ?_
  refine GL.nil ?_
  refine GE.seq ?_
  refine GC.seq ?_
  refine GC.seq ?_
  refine GC.region ?_
  refine GL.v Wmv ?_
  refine GL.v Wln ?_
  refine GL.v Wmv ?_
  refine GL.nil ?_
  refine GE.seq ?_
  refine GC.block ?_
  -- loop 1: carried slots [8]
  refine GC.loopK (α := Nat) (fun i => i ≤ xs.length ∧ ∀ j (h : j < i) (h' : j < xs.length), n ≠ xs[j]) (fun i => [(8, .int .i64 i)]) [(0, _), (1, _), (7, _)] (fun i => L) (fun i => xs.length - i) 0 Wkp Wsb ⟨Nat.zero_le _, fun _ h => by omega⟩ ?_
  rintro i ⟨hi, hno⟩
  refine GC.seq ?_
  refine GC.region ?_
  refine GL.v Wls ?_
  refine GL.nil ?_
  refine GE.seq ?_
  refine GC.seq ?_
  refine GC.ifs (fun h1 => ?_) (fun h1 => ?_)
  · -- T
    have hil : i < xs.length := by omega
    refine GC.skip ?_
    refine GE.seq ?_
    refine GC.seq ?_
    refine GC.block ?_
    refine GC.seq ?_
    refine GC.region ?_
    refine GL.v Wmv ?_
    refine GL.v Wag ?_
    refine GL.nil ?_
    refine GE.seq ?_
    refine GC.seq ?_
    refine GC.region ?_
    refine GL.v Wmv ?_
    refine GL.v Wmv ?_
    refine GL.v Wmv ?_
    refine GL.v Wix ?_
    refine GL.v Wle ?_
    refine GL.v Weq ?_
    refine GL.nil ?_
    refine GE.seq ?_
    refine GC.ifs (fun h2 => ?_) (fun h2 => ?_)
    · -- TT
      refine GC.seq ?_
      refine GC.region ?_
      refine GL.v Wmv ?_
      refine GL.v Wag ?_
      refine GL.nil ?_
      refine GE.seq ?_
      refine GC.ret ?_
      refine GE.block_ret ?_
      refine GE.seq_ret ?_
      refine GE.loop_ret ?_
      refine GE.block_ret ?_
      refine GE.seq_ret ?_
      -- returns, path TT
      refine GE.ret_tmp (L' := L) (.inl rfl) rfl rfl Wsb ?_
      exact ⟨_, rfl, ⟨fun _ => by rw [h2]; simp, fun _ => by omega⟩, rfl⟩
    · -- TF
      refine GC.skip ?_
      refine GE.block ?_
      refine GE.seq ?_
      refine GC.region ?_
      refine GL.v Wad ?_
      refine GL.v Wmv ?_
      refine GL.nil ?_
      -- round of loop 1, path TF
      refine GE.round (i + 1) ⟨by omega, fun j h h' => ?_⟩ (by omega) Wkp Wsb
      by_cases e : j = i
      · subst e; exact h2
      · exact hno j (by omega) h'
  · -- F
    refine GC.exit ?_
    refine GE.seq_exit ?_
    refine GE.loop_exit ?_
    refine GE.block_exit ?_
    refine GE.seq ?_
    refine GC.seq ?_
    refine GC.region ?_
    refine GL.v Wag ?_
    refine GL.nil ?_
    refine GE.seq ?_
    refine GC.ret ?_
    -- returns, path F
    refine GE.ret_tmp (L' := L) (.inl rfl) rfl rfl Wsb ?_
    refine ⟨-1, rfl, ⟨fun h => by omega, fun h => ?_⟩, rfl⟩
    obtain ⟨j, hj, e⟩ := List.mem_iff_getElem.1 (show n ∈ xs by simpa using h)
    exact absurd e.symm (hno j (by omega) hj)
theorem Contains_spec (w0 : World) (L : List Asn) (A : Option Addr) (c : Nat) (xs : List Int) (hX : Rd w0 L intE A c xs) (hl : xs.length ≤ 1100000) (n : Int) :
    Tr Try.prog 104 #[.slice A xs.length c, .int .i64 n] w0 L (fun v L' => v = .bool (xs.contains n) ∧ L' = L) := by
  refine Tr.enter (args := [.slice A xs.length c, .int .i64 n]) Try.func104 Try.ntmps104 rfl rfl ?_
  refine GC.seq ?_
  refine GC.region ?_
  refine GL.v Wag ?_
  refine GL.nil ?_
  refine GE.seq ?_
  refine GC.seq ?_
  refine GC.region ?_
  refine GL.v Wmv ?_
  refine GL.v Wmv ?_
  refine GL.call rfl rfl (Index_spec _ _ _ _ _ Wrd Wom _) ?_
  rintro _ _ ⟨k7, rfl, hk7, e7⟩
  rw [e7]; clear e7
  refine GL.v Wgq ?_
  refine GL.v Wag ?_
  refine GL.nil ?_
  refine GE.seq ?_
  refine GC.ret ?_
  -- returns, path 
  refine GE.ret_tmp (L' := L) (.inl rfl) rfl rfl Wsb ?_
  refine ⟨?_, rfl⟩
  cases ha : xs.contains n with
  | true => rw [decide_eq_true (hk7.2 ha)]
  | false => rw [decide_eq_false (fun h => by rw [hk7.1 h] at ha; cases ha)]
theorem join_spec (w0 : World) (L : List Asn) (k x y : Int) (hx : InMod x) (hy : InMod y) : Tr Try.prog 154 #[.int .i64 k, .int .i64 x, .int .i64 y] w0 L (fun v L' => v = .int .i64 (joinI k x y) ∧ L' = L) := by
  obtain ⟨x0, x1⟩ := hx
  obtain ⟨y0, y1⟩ := hy
  have hm0 : 0 ≤ x * y := Int.mul_nonneg x0 y0
  have hm1 : x * y ≤ 999 * 999 := Int.mul_le_mul x1 y1 y0 (by omega)
  refine Tr.enter (args := [.int .i64 k, .int .i64 x, .int .i64 y]) Try.func154 Try.ntmps154 rfl rfl ?_
  refine GC.seq ?_
  refine GC.region ?_
  refine GL.v Wag ?_
  refine GL.nil ?_
  refine GE.seq ?_
  refine GC.seq ?_
  refine GC.seq ?_
  refine GC.region ?_
  refine GL.v Wmv ?_
  refine GL.nil ?_
  refine GE.seq ?_
  refine GC.block ?_
  refine GC.seq ?_
  refine GC.region ?_
  refine GL.v Weq ?_
  refine GL.v Wag ?_
  refine GL.nil ?_
  refine GE.seq ?_
  refine GC.ifs (fun h1 => ?_) (fun h1 => ?_)
  · -- T
    refine GC.seq ?_
    refine GC.region ?_
    refine GL.v Wmv ?_
    refine GL.v Wmv ?_
    refine GL.v Wad ?_
    refine GL.v (by exact EvP.r (Ev.rem rfl rfl (by omega) (by omega))) ?_
    refine GL.v Wag ?_
    refine GL.nil ?_
    refine GE.seq ?_
    refine GC.ret ?_
    refine GE.block_ret ?_
    refine GE.seq_ret ?_
    -- returns, path T
    refine GE.ret_tmp (L' := L) (.inl rfl) rfl rfl Wsb ?_
    exact ⟨by simp [joinI, *], rfl⟩
  · -- F
    refine GC.seq ?_
    refine GC.region ?_
    refine GL.v Weq ?_
    refine GL.v Wag ?_
    refine GL.nil ?_
    refine GE.seq ?_
    refine GC.ifs (fun h2 => ?_) (fun h2 => ?_)
    · -- FT
      refine GC.seq ?_
      refine GC.region ?_
      refine GL.v Wmv ?_
      refine GL.v Wmv ?_
      refine GL.v Wsu ?_
      refine GL.v Wad ?_
      refine GL.v (by exact EvP.r (Ev.rem rfl rfl (by omega) (by omega))) ?_
      refine GL.v Wag ?_
      refine GL.nil ?_
      refine GE.seq ?_
      refine GC.ret ?_
      refine GE.block_ret ?_
      refine GE.seq_ret ?_
      -- returns, path FT
      refine GE.ret_tmp (L' := L) (.inl rfl) rfl rfl Wsb ?_
      exact ⟨by simp [joinI, *], rfl⟩
    · -- FF
      refine GC.seq ?_
      refine GC.region ?_
      refine GL.v Weq ?_
      refine GL.v Wag ?_
      refine GL.nil ?_
      refine GE.seq ?_
      refine GC.ifs (fun h3 => ?_) (fun h3 => ?_)
      · -- FFT
        refine GC.seq ?_
        refine GC.region ?_
        refine GL.v Wmv ?_
        refine GL.v Wmv ?_
        refine GL.v (by exact EvP.r (Ev.mul rfl rfl (by omega))) ?_
        refine GL.v (by exact EvP.r (Ev.rem rfl rfl (by omega) (by omega))) ?_
        refine GL.v Wag ?_
        refine GL.nil ?_
        refine GE.seq ?_
        refine GC.ret ?_
        refine GE.block_ret ?_
        refine GE.seq_ret ?_
        -- returns, path FFT
        refine GE.ret_tmp (L' := L) (.inl rfl) rfl rfl Wsb ?_
        exact ⟨by simp [joinI, *], rfl⟩
      · -- FFF
        refine GC.seq ?_
        refine GC.region ?_
        refine GL.v Weq ?_
        refine GL.v Wag ?_
        refine GL.nil ?_
        refine GE.seq ?_
        refine GC.ifs (fun h4 => ?_) (fun h4 => ?_)
        · -- FFFT
          refine GC.seq ?_
          refine GC.region ?_
          refine GL.v Wmv ?_
          refine GL.v Wmv ?_
          refine GL.v (by exact EvP.r (Ev.min rfl rfl)) ?_
          refine GL.v Wag ?_
          refine GL.nil ?_
          refine GE.seq ?_
          refine GC.ret ?_
          refine GE.block_ret ?_
          refine GE.seq_ret ?_
          -- returns, path FFFT
          refine GE.ret_tmp (L' := L) (.inl rfl) rfl rfl Wsb ?_
          exact ⟨by simp [joinI, *], rfl⟩
        · -- FFFF
          refine GC.seq ?_
          refine GC.region ?_
          refine GL.v Weq ?_
          refine GL.v Wag ?_
          refine GL.nil ?_
          refine GE.seq ?_
          refine GC.ifs (fun h5 => ?_) (fun h5 => ?_)
          · -- FFFFT
            refine GC.seq ?_
            refine GC.region ?_
            refine GL.v Wmv ?_
            refine GL.v Wmv ?_
            refine GL.v (by exact EvP.r (Ev.max rfl rfl)) ?_
            refine GL.v Wag ?_
            refine GL.nil ?_
            refine GE.seq ?_
            refine GC.ret ?_
            refine GE.block_ret ?_
            refine GE.seq_ret ?_
            -- returns, path FFFFT
            refine GE.ret_tmp (L' := L) (.inl rfl) rfl rfl Wsb ?_
            exact ⟨by simp [joinI, *], rfl⟩
          · -- FFFFF
            refine GC.skip ?_
            refine GE.block ?_
            refine GE.seq ?_
            refine GC.seq ?_
            refine GC.seq ?_
            refine GC.region ?_
            refine GL.v Wmv ?_
            refine GL.v Wmv ?_
            refine GL.v Wls ?_
            refine GL.nil ?_
            refine GE.seq ?_
            refine GC.ifs (fun h6 => ?_) (fun h6 => ?_)
            · -- FFFFFT
              refine GC.seq ?_
              refine GC.region ?_
              refine GL.v Wag ?_
              refine GL.nil ?_
              refine GE.seq ?_
              refine GC.ret ?_
              refine GE.seq_ret ?_
              -- returns, path FFFFFT
              refine GE.ret_tmp (L' := L) (.inl rfl) rfl rfl Wsb ?_
              exact ⟨by simp [joinI, *], rfl⟩
            · -- FFFFFF
              refine GC.skip ?_
              refine GE.seq ?_
              refine GC.seq ?_
              refine GC.region ?_
              refine GL.v Wag ?_
              refine GL.nil ?_
              refine GE.seq ?_
              refine GC.ret ?_
              -- returns, path FFFFFF
              refine GE.ret_tmp (L' := L) (.inl rfl) rfl rfl Wsb ?_
              exact ⟨by simp [joinI, *], rfl⟩

/-- the reader of nodes: the list so far in a variable -/
def rdsA (g : Nat) (A : Option Addr) (c : Nat) (rs : List Int) : List Asn := [blk g 47 [.slice A rs.length c], row intE A c rs]
/-- what a function that reads nodes does, wherever the state leads to L -/
def ReadsBy (F : FuncId) (first captured : Array Value) (g : Nat) (w0 : World) (L : List Asn) (ok : Int → Prop) (vals : Int → Int) : Prop :=
  ∀ X, Imp w0 X L → ∀ (rs : List Int) (A : Option Addr) (c : Nat) (n : Int), ok n → rs.length ≤ 10000 →
    Tr Try.prog F (first ++ #[.int .i64 n] ++ captured) w0 (blk g 47 [.slice A rs.length c] :: row intE A c rs :: X) (fun v L' => v = .int .i64 (vals n) ∧ ∃ A' c', L' = blk g 47 [.slice A' (addR rs n).length c'] :: row intE A' c' (addR rs n) :: X)
theorem ReadsBy.imp {F : FuncId} {first captured : Array Value} {g : Nat} {w0 : World} {L L1 : List Asn} {ok : Int → Prop} {vals : Int → Int} (h : ReadsBy F first captured g w0 L ok vals) (hi : Imp w0 L1 L) : ReadsBy F first captured g w0 L1 ok vals := fun X hX => h X (hX.trans hi)
theorem eval_spec (w0 : World) (L : List Asn) (A : Option Addr) (c : Nat) (ps : List Part) (hR : Rd w0 L partE A c ps) (hv : ∀ i (h : i < ps.length), GoodAt ps[i] i) (hl : ps.length ≤ 12)
    (F : FuncId) [FnOk Try.prog F] (first captured : Array Value) (g : Nat) (vals : Int → Int) (hF : ReadsBy F first captured g w0 L (fun n => ∃ p ∈ ps, p.kind = 1 ∧ p.n = n) vals) (hvals : ∀ p ∈ ps, p.kind = 1 → InMod (vals p.n)) :
    ∀ (i : Nat) (hi : i < ps.length) (X : List Asn) (hX : Imp w0 X L) (rs : List Int) (B : Option Addr) (d : Nat) (hrs : rs.length + 2 ^ (i + 1) ≤ 10000) (k : Int) (hk : k = i),
    Tr Try.prog 138 #[.agg #[.slice A ps.length c], .int .i64 k, .func (.func F) first captured] w0 (blk g 47 [.slice B rs.length d] :: row intE B d rs :: X)
      (fun v L' => v = .int .i64 (evL ps vals i).1 ∧ ∃ B' d', L' = blk g 47 [.slice B' (addAll rs (evL ps vals i).2).length d'] :: row intE B' d' (addAll rs (evL ps vals i).2) :: X) := by
  intro i
  induction i using Nat.strongRecOn with
  | _ i ih =>
    intro hi X hX rs B d hrs k hk
    subst hk
    have hg := hv i hi
    have hRX := hR.imp hX
    have hin := fun j hj => evL_in (vals := vals) hv hvals j hj
    refine Tr.enter (args := [.agg #[.slice A ps.length c], .int .i64 i, .func (.func F) first captured]) Try.func138 Try.ntmps138 rfl rfl ?_
    refine GC.seq ?_
    refine GC.region ?_
    refine GL.box_agg rfl rfl ?_; intro g3
    refine GL.v Wag ?_
    refine GL.nil ?_
    refine GE.seq ?_
    refine GC.seq ?_
    refine GC.region ?_
    refine GL.v Wfa ?_
    refine GL.v Wlb ?_
    refine GL.v Wmv ?_
    refine GL.v Wix ?_
    refine GL.v Wle ?_
    refine GL.alloc rfl ?_; intro g7
    refine GL.store_varN rfl rfl rfl Wpk (by rfl) (by rfl) (by rfl) ?_
    refine GL.nil ?_
    refine GE.seq ?_
    refine GC.seq ?_
    refine GC.seq ?_
    refine GC.region ?_
    refine GL.v Wfa ?_
    refine GL.v Wlb ?_
    refine GL.nil ?_
    refine GE.seq ?_
    refine GC.block ?_
    refine GC.seq ?_
    refine GC.region ?_
    refine GL.v Weq ?_
    refine GL.v Wag ?_
    refine GL.nil ?_
    refine GE.seq ?_
    refine GC.ifs (fun h1 => ?_) (fun h1 => ?_)
    · -- T
      refine GC.seq ?_
      refine GC.region ?_
      refine GL.v Wfa ?_
      refine GL.v Wlb ?_
      refine GL.v Wag ?_
      refine GL.nil ?_
      refine GE.seq ?_
      refine GC.ret ?_
      refine GE.block_ret ?_
      refine GE.seq_ret ?_
      -- returns, path T
      refine GE.ret_tmp (L' := blk g 47 [.slice B rs.length d] :: row intE B d rs :: X) (.inl rfl) rfl rfl Wsb ?_
      rw [evL_num hi h1]
      exact ⟨rfl, B, d, rfl⟩
    · -- F
      refine GC.seq ?_
      refine GC.region ?_
      refine GL.v Weq ?_
      refine GL.v Wag ?_
      refine GL.nil ?_
      refine GE.seq ?_
      refine GC.ifs (fun h2 => ?_) (fun h2 => ?_)
      · -- FT
        refine GC.seq ?_
        refine GC.region ?_
        refine GL.v Wmv ?_
        refine GL.v Wfa ?_
        refine GL.v Wlb ?_
        refine GL.front (A := row intE B d rs) Wpk ?_
        refine GL.front (A := blk g 47 _) Wpk ?_
        refine GL.callAny rfl rfl rfl (hF _ (by repeat (first | exact hX | refine Imp.cons ?_)) rs B d _ ⟨_, List.getElem_mem hi, h2, rfl⟩ (Nat.le_trans (Nat.le_add_right _ _) hrs)) ?_
        rintro _ _ ⟨rfl, B1, d1, rfl⟩
        refine GL.v Wag ?_
        refine GL.nil ?_
        refine GE.seq ?_
        refine GC.ret ?_
        refine GE.block_ret ?_
        refine GE.seq_ret ?_
        -- returns, path FT
        refine GE.ret_tmp (L' := blk g 47 [.slice B1 (addR rs ps[i].n).length d1] :: row intE B1 d1 (addR rs ps[i].n) :: X) (.inl rfl) rfl rfl Wsb ?_
        rw [evL_read hi h2]
        exact ⟨rfl, B1, d1, rfl⟩
      · -- FF
        refine GC.seq ?_
        refine GC.region ?_
        refine GL.v Weq ?_
        refine GL.v Wag ?_
        refine GL.nil ?_
        refine GE.seq ?_
        refine GC.ifs (fun h3 => ?_) (fun h3 => ?_)
        · -- FFT
          obtain ⟨_, ha, hb, hc⟩ := good_if hg h3
          have pe : 2 ^ (i + 1) = 2 * 2 ^ i := by rw [Nat.pow_succ]; omega
          have pa : 2 ^ (ps[i].a.toNat + 1) ≤ 2 ^ i := Nat.pow_le_pow_right (by decide) (by omega)
          have pb : 2 ^ (ps[i].b.toNat + 1) ≤ 2 ^ i := Nat.pow_le_pow_right (by decide) (by omega)
          have pc : 2 ^ (ps[i].c.toNat + 1) ≤ 2 ^ i := Nat.pow_le_pow_right (by decide) (by omega)
          have pa' : 2 ^ (ps[i].a.toNat + 1) = 2 * 2 ^ ps[i].a.toNat := by rw [Nat.pow_succ]; omega
          have la := evL_len (vals := vals) hv ps[i].a.toNat (by omega)
          have lr := addAll_length (evL ps vals ps[i].a.toNat).2 rs
          refine GC.seq ?_
          refine GC.seq ?_
          refine GC.region ?_
          refine GL.v Wlba ?_
          refine GL.v Wfa ?_
          refine GL.v Wlb ?_
          refine GL.v Wmv ?_
          refine GL.front (A := row intE B d (rs)) Wpk ?_
          refine GL.front (A := blk g 47 _) Wpk ?_
          refine GL.call rfl rfl (ih ps[i].a.toNat (by omega) (by omega) _ (by repeat (first | exact hX | refine Imp.cons ?_)) (rs) B d (by omega) _ (by omega)) ?_
          rintro _ _ ⟨rfl, B1, d1, rfl⟩
          refine GL.v Wnq ?_
          refine GL.nil ?_
          refine GE.seq ?_
          refine GC.ifs (fun h4 => ?_) (fun h4 => ?_)
          · -- FFTT
            refine GC.seq ?_
            refine GC.region ?_
            refine GL.v Wlba ?_
            refine GL.v Wfa ?_
            refine GL.v Wlb ?_
            refine GL.v Wmv ?_
            refine GL.front (A := row intE B1 d1 (addAll rs (evL ps vals ps[i].a.toNat).2)) Wpk ?_
            refine GL.front (A := blk g 47 _) Wpk ?_
            refine GL.call rfl rfl (ih ps[i].b.toNat (by omega) (by omega) _ (by repeat (first | exact hX | refine Imp.cons ?_)) (addAll rs (evL ps vals ps[i].a.toNat).2) B1 d1 (by omega) _ (by omega)) ?_
            rintro _ _ ⟨rfl, B2, d2, rfl⟩
            refine GL.v Wag ?_
            refine GL.nil ?_
            refine GE.seq ?_
            refine GC.ret ?_
            refine GE.seq_ret ?_
            refine GE.block_ret ?_
            refine GE.seq_ret ?_
            -- returns, path FFTT
            refine GE.ret_tmp (L' := blk g 47 [.slice B2 (addAll (addAll rs (evL ps vals ps[i].a.toNat).2) (evL ps vals ps[i].b.toNat).2).length d2] :: row intE B2 d2 (addAll (addAll rs (evL ps vals ps[i].a.toNat).2) (evL ps vals ps[i].b.toNat).2) :: X) (.inl rfl) rfl rfl Wsb ?_
            rw [evL_if hi hg h3 h4, addAll_append]
            exact ⟨rfl, B2, d2, rfl⟩
          · -- FFTF
            refine GC.skip ?_
            refine GE.seq ?_
            refine GC.seq ?_
            refine GC.region ?_
            refine GL.v Wlba ?_
            refine GL.v Wfa ?_
            refine GL.v Wlb ?_
            refine GL.v Wmv ?_
            refine GL.front (A := row intE B1 d1 (addAll rs (evL ps vals ps[i].a.toNat).2)) Wpk ?_
            refine GL.front (A := blk g 47 _) Wpk ?_
            refine GL.call rfl rfl (ih ps[i].c.toNat (by omega) (by omega) _ (by repeat (first | exact hX | refine Imp.cons ?_)) (addAll rs (evL ps vals ps[i].a.toNat).2) B1 d1 (by omega) _ (by omega)) ?_
            rintro _ _ ⟨rfl, B2, d2, rfl⟩
            refine GL.v Wag ?_
            refine GL.nil ?_
            refine GE.seq ?_
            refine GC.ret ?_
            refine GE.block_ret ?_
            refine GE.seq_ret ?_
            -- returns, path FFTF
            refine GE.ret_tmp (L' := blk g 47 [.slice B2 (addAll (addAll rs (evL ps vals ps[i].a.toNat).2) (evL ps vals ps[i].c.toNat).2).length d2] :: row intE B2 d2 (addAll (addAll rs (evL ps vals ps[i].a.toNat).2) (evL ps vals ps[i].c.toNat).2) :: X) (.inl rfl) rfl rfl Wsb ?_
            rw [evL_else hi hg h3 h4, addAll_append]
            exact ⟨rfl, B2, d2, rfl⟩
        · -- FFF
          obtain ⟨_, _, _, ha, hb⟩ := good_bin hg h1 h2 h3
          have pe : 2 ^ (i + 1) = 2 * 2 ^ i := by rw [Nat.pow_succ]; omega
          have pa : 2 ^ (ps[i].a.toNat + 1) ≤ 2 ^ i := Nat.pow_le_pow_right (by decide) (by omega)
          have pb : 2 ^ (ps[i].b.toNat + 1) ≤ 2 ^ i := Nat.pow_le_pow_right (by decide) (by omega)
          have pa' : 2 ^ (ps[i].a.toNat + 1) = 2 * 2 ^ ps[i].a.toNat := by rw [Nat.pow_succ]; omega
          have la := evL_len (vals := vals) hv ps[i].a.toNat (by omega)
          have lr := addAll_length (evL ps vals ps[i].a.toNat).2 rs
          have ja := hin ps[i].a.toNat (by omega)
          have jb := hin ps[i].b.toNat (by omega)
          refine GC.skip ?_
          refine GE.block ?_
          refine GE.seq ?_
          refine GC.seq ?_
          refine GC.region ?_
          refine GL.v Wlba ?_
          refine GL.v Wfa ?_
          refine GL.v Wlb ?_
          refine GL.v Wmv ?_
          refine GL.front (A := row intE B d (rs)) Wpk ?_
          refine GL.front (A := blk g 47 _) Wpk ?_
          refine GL.call rfl rfl (ih ps[i].a.toNat (by omega) (by omega) _ (by repeat (first | exact hX | refine Imp.cons ?_)) (rs) B d (by omega) _ (by omega)) ?_
          rintro _ _ ⟨rfl, B1, d1, rfl⟩
          refine GL.v Wag ?_
          refine GL.nil ?_
          refine GE.seq ?_
          refine GC.seq ?_
          refine GC.region ?_
          refine GL.v Wlba ?_
          refine GL.v Wfa ?_
          refine GL.v Wlb ?_
          refine GL.v Wmv ?_
          refine GL.front (A := row intE B1 d1 (addAll rs (evL ps vals ps[i].a.toNat).2)) Wpk ?_
          refine GL.front (A := blk g 47 _) Wpk ?_
          refine GL.call rfl rfl (ih ps[i].b.toNat (by omega) (by omega) _ (by repeat (first | exact hX | refine Imp.cons ?_)) (addAll rs (evL ps vals ps[i].a.toNat).2) B1 d1 (by omega) _ (by omega)) ?_
          rintro _ _ ⟨rfl, B2, d2, rfl⟩
          refine GL.v Wag ?_
          refine GL.nil ?_
          refine GE.seq ?_
          refine GC.seq ?_
          refine GC.region ?_
          refine GL.v Wfa ?_
          refine GL.v Wlb ?_
          refine GL.v Wmv ?_
          refine GL.v Wmv ?_
          refine GL.callF rfl rfl (join_spec _ _ _ _ _ (by assumption) (by assumption)) ?_
          refine GL.v Wag ?_
          refine GL.nil ?_
          refine GE.seq ?_
          refine GC.ret ?_
          -- returns, path FFF
          refine GE.ret_tmp (L' := blk g 47 [.slice B2 (addAll (addAll rs (evL ps vals ps[i].a.toNat).2) (evL ps vals ps[i].b.toNat).2).length d2] :: row intE B2 d2 (addAll (addAll rs (evL ps vals ps[i].a.toNat).2) (evL ps vals ps[i].b.toNat).2) :: X) (.inl rfl) rfl rfl Wsb ?_
          rw [evL_bin hi hg h1 h2 h3, addAll_append]
          exact ⟨rfl, B2, d2, rfl⟩
/-- the function that 'run' hands on -/
theorem run1_spec (w0 : World) (L : List Asn) (F : FuncId) [FnOk Try.prog F] (first captured : Array Value) (vals : Int → Int) (ok : Int → Prop) (g3 g6 : Nat)
    (hF : ∀ X, Imp w0 X L → ∀ n, ok n → Tr Try.prog F (first ++ #[.int .i64 n] ++ captured) w0 X (fun v L' => v = .int .i64 (vals n) ∧ L' = X)) (hb : BlkRd w0 L g3 126 [.func (.func F) first captured]) :
    ReadsBy 140 #[] #[.pointer (some ⟨g6, 0, none⟩), .pointer (some ⟨g3, 0, none⟩)] g6 w0 L ok vals := by
  intro X hX rs A c n hn hrs
  have hbX := hb.imp hX
  refine Tr.enter (args := [.int .i64 n, .pointer (some ⟨g6, 0, none⟩), .pointer (some ⟨g3, 0, none⟩)]) Try.func140 Try.ntmps140 rfl rfl ?_
  refine GC.seq ?_
  refine GC.region ?_
  refine GL.v Wag ?_
  refine GL.nil ?_
  refine GE.seq ?_
  refine GC.seq ?_
  refine GC.seq ?_
  refine GC.region ?_
  refine GL.v Wlb ?_
  refine GL.v Wmv ?_
  refine GL.callF rfl rfl (Contains_spec _ _ _ _ _ Wrd Wom _) ?_
  refine GL.v Wnt ?_
  refine GL.nil ?_
  refine GE.seq ?_
  refine GC.ifs (fun h1 => ?_) (fun h1 => ?_)
  · -- T
    refine GC.region ?_
    refine GL.v Wlb ?_
    refine GL.v Wmv ?_
    refine GL.buildSlice rfl (by first | exact bsInt0 | exact bsInt1 _ | exact bsInt2 _ _ | exact bsInt3 _ _ _ | exact bsInt4 _ _ _ _ | exact bsInt5 _ _ _ _ _ | exact bsInt6 _ _ _ _ _ _ | exact bsInt7 _ _ _ _ _ _ _ | exact bsInt8 _ _ _ _ _ _ _ _ | exact bsInt9 _ _ _ _ _ _ _ _ _ | exact bsInt10 _ _ _ _ _ _ _ _ _ _ | exact bsPart0 | exact bsPart1 ⟨_, _, _, _, _⟩ | exact bsNode1 ⟨_, _, _, _⟩ | exact bsPtr3 _ _ _ | exact bsSl0 | exact bsSl1 ⟨_, _, _⟩) rfl (by decide) rfl ?_; intro g11
    first | (refine GL.append rfl rfl Wpk (by assumption) Wim (by first | rfl | (simp; done) | (simp; omega)) (by first | rfl | (simp; done) | (simp; omega)) (by first | omega | (simp; omega)) (by first | omega | (simp; omega)) rfl ?_; intro A12 c12) | (refine GL.append rfl rfl Wpk (Rd.of_pick Wpk) Imp.refl (by first | rfl | (simp; done) | (simp; omega)) (by first | rfl | (simp; done) | (simp; omega)) (by first | omega | (simp; omega)) (by first | omega | (simp; omega)) rfl ?_; intro A12 c12)
    refine GL.store_var1 rfl rfl rfl Wpk (by rfl) (by rfl) ?_
    refine GL.nil ?_
    refine GE.seq ?_
    refine GC.seq ?_
    refine GC.region ?_
    refine GL.v Wlb ?_
    refine GL.v Wmv ?_
    refine GL.callQ rfl rfl rfl (hF _ (by repeat (first | exact hX | refine Imp.cons ?_)) n hn) ?_
    refine GL.v Wag ?_
    refine GL.nil ?_
    refine GE.seq ?_
    refine GC.ret ?_
    -- returns, path T
    refine GE.ret_tmp (L' := blk g6 47 [.slice A12 (rs ++ [n]).length c12] :: row intE A12 c12 (rs ++ [n]) :: X) (.inl rfl) rfl rfl Wsb ?_
    rw [show addR rs n = rs ++ [n] by simp only [addR]; rw [h1]; rfl]
    exact ⟨rfl, A12, c12, rfl⟩
  · -- F
    refine GC.skip ?_
    refine GE.seq ?_
    refine GC.seq ?_
    refine GC.region ?_
    refine GL.v Wlb ?_
    refine GL.v Wmv ?_
    refine GL.callQ rfl rfl rfl (hF _ (by repeat (first | exact hX | refine Imp.cons ?_)) n hn) ?_
    refine GL.v Wag ?_
    refine GL.nil ?_
    refine GE.seq ?_
    refine GC.ret ?_
    -- returns, path F
    refine GE.ret_tmp (L' := blk g6 47 [.slice A rs.length c] :: row intE A c rs :: X) (.inl rfl) rfl rfl Wsb ?_
    rw [show addR rs n = rs by simp only [addR]; rw [h1]; rfl]
    exact ⟨rfl, A, c, rfl⟩
end SG
