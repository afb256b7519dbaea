/- Contracts: the library's sort of short lists, Compact, Clip. -/
import Derived.Test.YtllepoepfkobfaaOp5
import Derived.Test.YtllepoepfkobfaaPA
namespace SG
open Go Go.RowKit Go.Proofs
set_option linter.unusedVariables false
set_option linter.unusedSimpArgs false
set_option maxRecDepth 100000

section
variable {Q : Exit → Act → World → Prop} {w0 : World} {N : Nat} {fs : List Kf} {ops : Array Oper} {rest : List Oper} {F : Env} {L L1 : List Asn} {ty : TypeId} {pos : String} {after : Array Edge} {x y : Operand}
theorem GL.store_part {t : TypeId} {agg : Bool} {zc : List Value} {A : Option Addr} {c k j : Nat} {xs : List Part} {n : Int} [hT : TyOk Try.prog t agg 1 zc] (hx : ev F x = some (.pointer (some ((elA A k partE.size).add j)))) (hy : ev F y = some (.int .i64 n))
    (pk : Pick L (row partE A c xs) L1) (hk : k < xs.length) (hj : Nat.blt j 5 = true) (h : GL Try.prog Q w0 N false fs ops rest F (row partE A c (xs.set k (Part.put xs[k] j n)) :: L1)) : GL Try.prog Q w0 N false fs ops (⟨none, .store t x y, ty, pos, after, none⟩ :: rest) F L := by
  have hj' : j < 5 := by simpa [Nat.blt_eq] using hj
  refine GL.store_el_cell (Part.put xs[k] j n) hx hy pk (u := .int .i64 n) rfl rfl hk hj' ?_ h
  match j, hj' with
  | 0, _ => rfl
  | 1, _ => rfl
  | 2, _ => rfl
  | 3, _ => rfl
  | 4, _ => rfl
end
theorem isNaN_spec (w0 : World) (L : List Asn) (n : Int) : Tr Try.prog 160 #[.int .i64 n] w0 L (fun v L' => v = .bool false ∧ L' = L) := by
  refine Tr.enter (args := [.int .i64 n]) Try.func160 Try.ntmps160 rfl rfl ?_
  refine GC.seq ?_
  refine GC.region ?_
  refine GL.v Wag ?_
  refine GL.nil ?_
  refine GE.seq ?_
  refine GC.seq ?_
  refine GC.region ?_
  refine GL.v Wmv ?_
  refine GL.v Wmv ?_
  refine GL.v Wnq ?_
  refine GL.v Wag ?_
  refine GL.nil ?_
  refine GE.seq ?_
  refine GC.ret ?_
  -- returns, path 
  refine GE.ret_tmp (L' := L) (.inl rfl) rfl rfl Wsb ?_
  exact ⟨by simp, rfl⟩
theorem Less_spec (w0 : World) (L : List Asn) (m n : Int) : Tr Try.prog 147 #[.int .i64 m, .int .i64 n] w0 L (fun v L' => v = .bool (decide (m < n)) ∧ L' = L) := by
  refine Tr.enter (args := [.int .i64 m, .int .i64 n]) Try.func147 Try.ntmps147 rfl rfl ?_
  refine GC.seq ?_
  refine GC.region ?_
  refine GL.v Wag ?_
  refine GL.nil ?_
  refine GE.seq ?_
  refine GC.seq ?_
  refine GC.region ?_
  refine GL.v Wmv ?_
  refine GL.callF rfl rfl (isNaN_spec _ _ _) ?_
  refine GL.v Wmv ?_
  refine GL.gs (fun h1 => ?_) (fun h1 => ?_)
  · -- t
    cases h1
  · -- f
    refine GL.unwant rfl rfl rfl rfl ?_
    refine GL.unwant rfl rfl rfl rfl ?_
    refine GL.unwant rfl rfl rfl rfl ?_
    refine GL.v Wpf ?_
    refine GL.v Wmv ?_
    refine GL.want rfl rfl ?_
    refine GL.v Wmv ?_
    refine GL.want rfl rfl ?_
    refine GL.v Wmv ?_
    refine GL.want rfl rfl ?_
    refine GL.v Wls ?_
    refine GL.v Wpf ?_
    refine GL.v Wag ?_
    refine GL.nil ?_
    refine GE.seq ?_
    refine GC.ret ?_
    -- returns, path f
    refine GE.ret_tmp (L' := L) (.inl rfl) rfl rfl Wsb ?_
    exact ⟨rfl, rfl⟩
theorem insertionSort_spec (w0 : World) (L : List Asn) (A : Option Addr) (c : Nat) (xs : List Int) (hl : xs.length ≤ 1000) :
    Tr Try.prog 141 #[.slice A xs.length c, .int .i64 0, .int .i64 xs.length] w0 (row intE A c xs :: L) (fun v L' => ∃ ys, SameM ys xs ∧ Upto ys.length ys ∧ v = .tuple #[] ∧ L' = row intE A c ys :: L) := by
  refine Tr.enter (args := [.slice A xs.length c, .int .i64 0, .int .i64 xs.length]) Try.func141 Try.ntmps141 rfl rfl ?_
  refine GC.seq ?_
  refine GC.region ?_
  refine GL.v Wmv ?_
  refine GL.v Wad ?_
  refine GL.v Wag ?_
  refine GL.nil ?_
  refine GE.seq ?_
  refine GC.block ?_
  -- loop 1: carried slots [6]
  refine GC.loopK (α := Nat × List Int) (fun x => 1 ≤ x.1 ∧ x.1 ≤ xs.length + 1 ∧ SameM x.2 xs ∧ Upto x.1 (x.2.take xs.length)) (fun x => [(6, .int .i64 x.1)]) [(0, _), (1, _), (2, _)] (fun x => row intE A c x.2 :: L) (fun x => xs.length + 1 - x.1) (1, xs) Wkp Wsb ⟨by dsimp only; omega, by dsimp only; omega, SameM.refl _, fun p q h1 h2 => by dsimp only at h2; omega⟩ ?_
  rintro ⟨i, ys⟩ ⟨hi1, hi2, hsame, hup⟩
  dsimp only at hi1 hi2 hsame hup ⊢
  have hyl := hsame.1
  rw [List.take_of_length_le (by omega)] at hup
  refine GC.seq ?_
  refine GC.seq ?_
  refine GC.region ?_
  refine GL.v Wmv ?_
  refine GL.v Wmv ?_
  refine GL.v Wls ?_
  refine GL.nil ?_
  refine GE.seq ?_
  refine GC.ifs (fun h1 => ?_) (fun h1 => ?_)
  · -- T
    have hil : i < ys.length := by omega
    refine GC.skip ?_
    refine GE.seq ?_
    refine GC.seq ?_
    refine GC.block ?_
    refine GC.seq ?_
    refine GC.region ?_
    refine GL.v Wmv ?_
    refine GL.v Wag ?_
    refine GL.nil ?_
    refine GE.seq ?_
    refine GC.block ?_
    -- loop 2: carried slots [7]
    refine GC.loopK (α := Nat × List Int) (fun x => x.1 ≤ i ∧ SameM x.2 xs ∧ Nearly i x.1 x.2) (fun x => [(7, .int .i64 x.1)]) [(0, _), (1, _), (2, _), (6, _)] (fun x => row intE A c x.2 :: L) (fun x => x.1) (i, ys) Wkp Wsb ⟨Nat.le_refl _, hsame, Nearly.start hup⟩ ?_
    rintro ⟨j, zs⟩ ⟨hj, hsame2, hn⟩
    dsimp only at hj hsame2 hn ⊢
    have hzl := hsame2.1
    refine GC.seq ?_
    refine GC.seq ?_
    refine GC.region_quiet mixed (by kernel_rfl) ?_
    refine GL.v Wmv ?_
    refine GL.v Wmv ?_
    refine GL.v Wgt ?_
    refine GL.v Wmv ?_
    refine GL.gs (fun h2 => ?_) (fun h2 => ?_)
    · -- Tt
      have hj0 : 0 < j := by omega
      have ej : ((j : Int) - 1).toNat = j - 1 := by omega
      refine GL.want rfl rfl ?_
      refine GL.v Wmv ?_
      refine GL.want rfl rfl ?_
      refine GL.v Wmv ?_
      refine GL.want rfl rfl ?_
      refine GL.v Wix ?_
      refine GL.want rfl rfl ?_
      refine GL.v Wle ?_
      refine GL.want rfl rfl ?_
      refine GL.v Wmv ?_
      refine GL.want rfl rfl ?_
      refine GL.v Wmv ?_
      refine GL.want rfl rfl ?_
      refine GL.v Wsu ?_
      refine GL.want rfl rfl ?_
      refine GL.v Wix ?_
      refine GL.want rfl rfl ?_
      refine GL.v Wle ?_
      refine GL.want rfl rfl ?_
      refine GL.callF rfl rfl (Less_spec _ _ _ _) ?_
      refine GL.v Wpt ?_
      refine GL.nil ?_
      refine GE.seq ?_
      refine GC.ifs (fun h3 => ?_) (fun h3 => ?_)
      · -- TtT
        refine GC.skip ?_
        refine GE.seq ?_
        refine GC.seq ?_
        refine GC.block ?_
        refine GC.region_any #[false, false, false, false, false, false, false, false, false, false, false, false, false, false, false, true, false, true] mixed ?_
        refine GA.take 0 #[false, true, true, true, true, true, true, true, true, true, true, true, true, true, false, false, false, false] rfl (by exact Ev.move rfl) rfl rfl (by kernel_rfl) rfl (by kernel_rfl) (by kernel_rfl) (fun _ _ _ h => h) ?_
        refine GA.take 1 #[true, false, true, true, true, true, true, true, true, true, true, true, true, true, false, false, false, false] rfl (by exact Ev.move rfl) rfl rfl (by kernel_rfl) rfl (by kernel_rfl) (by kernel_rfl) (fun _ _ _ h => h) ?_
        refine GA.take 2 #[true, true, false, true, true, true, true, true, true, true, true, true, true, true, true, true, false, false] rfl (by exact Ev.move rfl) rfl rfl (by kernel_rfl) rfl (by kernel_rfl) (by kernel_rfl) (fun _ _ _ h => h) ?_
        refine GA.take 3 #[true, true, true, false, false, true, true, true, true, true, true, true, true, true, true, true, false, false] rfl (by exact Ev.move rfl) rfl rfl (by kernel_rfl) rfl (by kernel_rfl) (by kernel_rfl) (fun _ _ _ h => h) ?_
        refine GA.take 4 #[true, true, true, true, false, true, true, true, true, true, true, true, true, true, true, true, false, false] rfl (by exact Ev.sub rfl rfl (by omega)) rfl rfl (by kernel_rfl) rfl (by kernel_rfl) (by kernel_rfl) (fun _ _ _ h => h) ?_
        refine GA.take 5 #[true, true, true, true, true, false, true, true, false, false, true, true, true, true, false, false, false, false] rfl (by exact Ev.move rfl) rfl rfl (by kernel_rfl) rfl (by kernel_rfl) (by kernel_rfl) (fun _ _ _ h => h) ?_
        refine GA.take 6 #[true, true, true, true, true, true, false, false, false, false, true, true, true, true, false, false, false, false] rfl (by exact Ev.move rfl) rfl rfl (by kernel_rfl) rfl (by kernel_rfl) (by kernel_rfl) (fun _ _ _ h => h) ?_
        refine GA.take 7 #[true, true, true, true, true, true, true, false, false, false, true, true, true, true, false, false, false, false] rfl (by exact Ev.sub rfl rfl (by omega)) rfl rfl (by kernel_rfl) rfl (by kernel_rfl) (by kernel_rfl) (fun _ _ _ h => h) ?_
        refine GA.read 8 #[true, true, true, true, true, true, true, true, false, false, true, true, true, true, false, false, false, false] rfl (by exact Wix) rfl rfl (by kernel_rfl) rfl (by kernel_rfl) (by kernel_rfl) (fun _ _ _ h => h) ?_
        refine GA.read 9 #[true, true, true, true, true, true, true, true, true, false, true, true, true, true, false, false, false, false] rfl (by exact Wle) rfl rfl (by kernel_rfl) rfl (by kernel_rfl) (by kernel_rfl) (fun _ _ _ h => h) ?_
        refine GA.take 10 #[true, true, true, true, true, true, true, true, true, true, false, true, false, false, false, false, false, false] rfl (by exact Ev.move rfl) rfl rfl (by kernel_rfl) rfl (by kernel_rfl) (by kernel_rfl) (fun _ _ _ h => h) ?_
        refine GA.take 11 #[true, true, true, true, true, true, true, true, true, true, true, false, false, false, false, false, false, false] rfl (by exact Ev.move rfl) rfl rfl (by kernel_rfl) rfl (by kernel_rfl) (by kernel_rfl) (fun _ _ _ h => h) ?_
        refine GA.read 12 #[true, true, true, true, true, true, true, true, true, true, true, true, false, false, false, false, false, false] rfl (by exact Wix) rfl rfl (by kernel_rfl) rfl (by kernel_rfl) (by kernel_rfl) (fun _ _ _ h => h) ?_
        refine GA.read 13 #[true, true, true, true, true, true, true, true, true, true, true, true, true, false, false, false, false, false] rfl (by exact Wle) rfl rfl (by kernel_rfl) rfl (by kernel_rfl) (by kernel_rfl) (fun _ _ _ h => h) ?_
        refine GA.read 14 #[true, true, true, true, true, true, true, true, true, true, true, true, true, true, false, false, false, false] rfl (by exact Wix) rfl rfl (by kernel_rfl) rfl (by kernel_rfl) (by kernel_rfl) (fun _ _ _ h => h) ?_
        refine GA.branch (rs := [15]) (JOk.live (by exact Wix) (JOk.live (by exact Wle) (JOk.live (by exact Wix) (JOk.live (by exact Wle) (JOk.live (by exact Wix) JOk.nil))))) (by kernel_rfl) (by simp) ?_
        refine GAs.cons rfl ?_ ?_
        · -- TtT op 15
          refine GL.store_el rfl rfl Wpk rfl rfl rfl (by first | omega | (simp; done) | (simp; omega)) ?_
          refine GL.nil ?_
          refine GE.any ?_
          refine GA.read 16 #[true, true, true, true, true, true, true, true, true, true, true, true, true, true, true, true, false, false] rfl (by exact Wix) rfl rfl (by kernel_rfl) rfl (by kernel_rfl) (by kernel_rfl) (fun _ _ _ h => h) ?_
          refine GA.branch (rs := [17]) (JOk.live (by exact Wix) (JOk.dead (by kernel_rfl) (JOk.dead (by kernel_rfl) (JOk.dead (by kernel_rfl) (JOk.dead (by kernel_rfl) (JOk.dead (by kernel_rfl) JOk.nil)))))) (by kernel_rfl) (by simp) ?_
          refine GAs.cons rfl ?_ ?_
          · -- TtT op 17
            refine GL.store_el rfl rfl Wpk rfl rfl rfl (by first | omega | (simp; done) | (simp; omega)) ?_
            refine GL.nil ?_
            refine GE.any ?_
            refine GA.done (JOk.dead (by kernel_rfl) (JOk.dead (by kernel_rfl) (JOk.dead (by kernel_rfl) (JOk.dead (by kernel_rfl) (JOk.dead (by kernel_rfl) (JOk.dead (by kernel_rfl) JOk.nil)))))) (by kernel_rfl) ?_
            refine GE.block ?_
            refine GE.seq ?_
            refine GC.region ?_
            refine GL.v Wmv ?_
            refine GL.v Wsu ?_
            refine GL.v Wag ?_
            refine GL.nil ?_
            -- round of loop 2, path TtT
            have e1 : ((j : Int) - 1) = ((j - 1 : Nat) : Int) := by omega
            simp only [e1, at0_eq, Int.toNat_natCast] at h3 ⊢
            refine GE.round (j - 1, (zs.set j (at0 zs (j - 1))).set (j - 1) (at0 zs j)) ⟨by dsimp only; omega, (SameM.swap (by omega) (by omega)).trans hsame2, hn.swap hj0 hj (by omega) h3⟩ (by dsimp only; omega) Wkp Wsb
          exact GAs.nil
        exact GAs.nil
      · -- TtF
        refine GC.exit ?_
        refine GE.seq_exit ?_
        refine GE.loop_exit ?_
        refine GE.block_exit ?_
        refine GE.block ?_
        refine GE.seq ?_
        refine GC.region ?_
        refine GL.v Wmv ?_
        refine GL.v Wad ?_
        refine GL.v Wag ?_
        refine GL.nil ?_
        -- round of loop 1, path TtF
        have e1 : ((j : Int) - 1) = ((j - 1 : Nat) : Int) := by omega
        simp only [e1, at0_eq, Int.toNat_natCast] at h3
        refine GE.round (i + 1, zs) ⟨by dsimp only; omega, by dsimp only; omega, hsame2, by dsimp only; rw [List.take_of_length_le (by omega)]; exact hn.stop hj0 hj h3⟩ (by dsimp only; omega) Wkp Wsb
    · -- Tf
      have hj0 : j = 0 := by omega
      refine GL.unwant rfl rfl rfl rfl ?_
      refine GL.unwant rfl rfl rfl rfl ?_
      refine GL.unwant rfl rfl rfl rfl ?_
      refine GL.unwant rfl rfl rfl rfl ?_
      refine GL.unwant rfl rfl rfl rfl ?_
      refine GL.unwant rfl rfl rfl rfl ?_
      refine GL.unwant rfl rfl rfl rfl ?_
      refine GL.unwant rfl rfl rfl rfl ?_
      refine GL.unwant rfl rfl rfl rfl ?_
      refine GL.unwant rfl rfl rfl rfl ?_
      refine GL.v Wpf ?_
      refine GL.nil ?_
      refine GE.seq ?_
      refine GC.cond_false rfl ?_
      refine GC.exit ?_
      refine GE.seq_exit ?_
      refine GE.loop_exit ?_
      refine GE.block_exit ?_
      refine GE.block ?_
      refine GE.seq ?_
      refine GC.region ?_
      refine GL.v Wmv ?_
      refine GL.v Wad ?_
      refine GL.v Wag ?_
      refine GL.nil ?_
      -- round of loop 1, path Tf
      subst hj0
      refine GE.round (i + 1, zs) ⟨by dsimp only; omega, by dsimp only; omega, hsame2, by dsimp only; rw [List.take_of_length_le (by omega)]; exact hn.stop0⟩ (by dsimp only; omega) Wkp Wsb
  · -- F
    refine GC.exit ?_
    refine GE.seq_exit ?_
    refine GE.loop_exit ?_
    refine GE.block_exit ?_
    -- returns, path F
    refine GE.ret_none (L' := row intE A c ys :: L) (.inr rfl) rfl Wsb ?_
    exact ⟨ys, hsame, fun p q h h' => hup p q h (by omega), rfl, rfl⟩
theorem pdqsort_spec (w0 : World) (L : List Asn) (A : Option Addr) (c : Nat) (xs : List Int) (hl : xs.length ≤ 12) (k : Int) :
    Tr Try.prog 130 #[.slice A xs.length c, .int .i64 0, .int .i64 xs.length, .int .i64 k] w0 (row intE A c xs :: L) (fun v L' => ∃ ys, SameM ys xs ∧ Upto ys.length ys ∧ v = .tuple #[] ∧ L' = row intE A c ys :: L) := by
  refine Tr.enter (args := [.slice A xs.length c, .int .i64 0, .int .i64 xs.length, .int .i64 k]) Try.func130 Try.ntmps130 rfl rfl ?_
  refine GC.seq ?_
  refine GC.region ?_
  refine GL.v Wag ?_
  refine GL.nil ?_
  refine GE.seq ?_
  refine GC.seq ?_
  refine GC.region ?_
  refine GL.v Wag ?_
  refine GL.nil ?_
  refine GE.seq ?_
  refine GC.block ?_
  -- loop 1: carried slots [1, 2, 3, 8, 9]
  refine GC.loopK (α := Unit) (fun _ => True) (fun _ => []) [(0, _), (1, _), (2, _)] (fun x => row intE A c xs :: L) (fun x => 0) () Wkp Wsb trivial ?_
  rintro ⟨⟩ _
  refine GC.block ?_
  refine GC.seq ?_
  refine GC.region ?_
  refine GL.v Wmv ?_
  refine GL.v Wmv ?_
  refine GL.v Wsu ?_
  refine GL.v Wag ?_
  refine GL.nil ?_
  refine GE.seq ?_
  refine GC.seq ?_
  refine GC.seq ?_
  refine GC.region ?_
  refine GL.v Wmv ?_
  refine GL.v Wlq ?_
  refine GL.nil ?_
  refine GE.seq ?_
  refine GC.ifs (fun h1 => ?_) (fun h1 => ?_)
  · -- T
    refine GC.seq ?_
    refine GC.region ?_
    refine GL.v Wmv ?_
    refine GL.v Wmv ?_
    refine GL.v Wmv ?_
    refine GL.call rfl rfl (insertionSort_spec _ _ _ _ _ (by omega)) ?_
    rintro _ _ ⟨ys, hys1, hys2, rfl, rfl⟩
    refine GL.nil ?_
    refine GE.seq ?_
    refine GC.ret ?_
    refine GE.seq_ret ?_
    refine GE.block_ret ?_
    refine GE.loop_ret ?_
    refine GE.block_ret ?_
    -- returns, path T
    refine GE.ret_none (L' := row intE A c ys :: L) (.inl rfl) rfl Wsb ?_
    exact ⟨ys, hys1, hys2, rfl, rfl⟩
  · -- F
    exfalso; omega
theorem Len64_spec (w0 : World) (L : List Asn) (n : Int) (n0 : 0 ≤ n) (n1 : n ≤ 255) : Tr Try.prog 151 #[.int .u64 n] w0 L (fun v L' => ∃ x : Int, v = .int .i64 x ∧ L' = L) := by
  refine Tr.enter (args := [.int .u64 n]) Try.func151 Try.ntmps151 rfl rfl ?_
  refine GC.seq ?_
  refine GC.region ?_
  refine GL.v Wag ?_
  refine GL.nil ?_
  refine GE.seq ?_
  refine GC.seq ?_
  refine GC.seq ?_
  refine GC.region ?_
  refine GL.v Wmv ?_
  refine GL.v (by exact EvP.r (Ev.geqK rfl rfl)) ?_
  refine GL.nil ?_
  refine GE.seq ?_
  refine GC.ifs (fun h1 => ?_) (fun h1 => ?_)
  · -- T
    exfalso; omega
  · -- F
    refine GC.skip ?_
    refine GE.seq ?_
    refine GC.seq ?_
    refine GC.seq ?_
    refine GC.region ?_
    refine GL.v Wmv ?_
    refine GL.v (by exact EvP.r (Ev.geqK rfl rfl)) ?_
    refine GL.nil ?_
    refine GE.seq ?_
    refine GC.ifs (fun h2 => ?_) (fun h2 => ?_)
    · -- FT
      exfalso; omega
    · -- FF
      refine GC.skip ?_
      refine GE.seq ?_
      refine GC.seq ?_
      refine GC.seq ?_
      refine GC.region ?_
      refine GL.v Wmv ?_
      refine GL.v (by exact EvP.r (Ev.geqK rfl rfl)) ?_
      refine GL.nil ?_
      refine GE.seq ?_
      refine GC.ifs (fun h3 => ?_) (fun h3 => ?_)
      · -- FFT
        exfalso; omega
      · -- FFF
        refine GC.skip ?_
        refine GE.seq ?_
        refine GC.seq ?_
        refine GC.region ?_
        refine GL.v Wmv ?_
        refine GL.v Wmv ?_
        refine GL.v (by exact EvP.r (Ev.conv rfl (IntWalk.u8_in _ ⟨by omega, by omega⟩))) ?_
        refine GL.v (by exact EvP.r (Ev.index_str rfl rfl Wik (Nat.lt_of_lt_of_le (m := 256) (by omega) (Nat.le_of_eq (by kernel_rfl))))) ?_
        generalize hb : UInt8.toNat _ = bb
        have hbb : bb ≤ 255 := by subst hb; exact Nat.le_of_lt_succ (UInt8.toNat_lt _)
        clear hb
        refine GL.v (by exact EvP.r (Ev.of_u8 rfl (by omega))) ?_
        refine GL.v Wad ?_
        refine GL.v Wag ?_
        refine GL.nil ?_
        refine GE.seq ?_
        refine GC.ret ?_
        -- returns, path FFF
        refine GE.ret_tmp (L' := L) (.inl rfl) rfl rfl Wsb ?_
        exact ⟨_, rfl, rfl⟩
theorem bitsLen_spec (w0 : World) (L : List Asn) (n : Int) (n0 : 0 ≤ n) (n1 : n ≤ 255) : Tr Try.prog 131 #[.int .u64 n] w0 L (fun v L' => ∃ x : Int, v = .int .i64 x ∧ L' = L) := by
  refine Tr.enter (args := [.int .u64 n]) Try.func131 Try.ntmps131 rfl rfl ?_
  refine GC.seq ?_
  refine GC.region ?_
  refine GL.v Wag ?_
  refine GL.nil ?_
  refine GE.seq ?_
  refine GC.seq ?_
  refine GC.cond_false rfl ?_
  refine GC.skip ?_
  refine GE.seq ?_
  refine GC.seq ?_
  refine GC.region ?_
  refine GL.v Wmv ?_
  refine GL.call rfl rfl (Len64_spec _ _ _ n0 n1) ?_
  rintro _ _ ⟨x, rfl, e⟩
  rw [e]
  refine GL.v Wag ?_
  refine GL.nil ?_
  refine GE.seq ?_
  refine GC.ret ?_
  -- returns, path 
  refine GE.ret_tmp (L' := L) (.inl rfl) rfl rfl Wsb ?_
  exact ⟨_, rfl, rfl⟩
theorem Sort_spec (w0 : World) (L : List Asn) (A : Option Addr) (c : Nat) (xs : List Int) (hl : xs.length ≤ 12) :
    Tr Try.prog 112 #[.slice A xs.length c] w0 (row intE A c xs :: L) (fun v L' => ∃ ys, SameM ys xs ∧ Upto ys.length ys ∧ v = .tuple #[] ∧ L' = row intE A c ys :: L) := by
  refine Tr.enter (args := [.slice A xs.length c]) Try.func112 Try.ntmps112 rfl rfl ?_
  refine GC.seq ?_
  refine GC.region ?_
  refine GL.v Wmv ?_
  refine GL.v Wln ?_
  refine GL.v Wag ?_
  refine GL.nil ?_
  refine GE.seq ?_
  refine GC.region ?_
  refine GL.v Wmv ?_
  refine GL.v Wmv ?_
  refine GL.v Wmv ?_
  refine GL.v (by exact EvP.r (Ev.conv rfl (IntWalk.u64_in _ ⟨by omega, by omega⟩))) ?_
  refine GL.call rfl rfl (bitsLen_spec _ _ _ (by omega) (by omega)) ?_
  rintro _ _ ⟨x, rfl, e⟩
  rw [e]
  refine GL.call rfl rfl (pdqsort_spec _ _ _ _ _ hl _) ?_
  rintro _ _ ⟨ys, hys1, hys2, rfl, rfl⟩
  refine GL.nil ?_
  -- returns, path 
  refine GE.ret_none (L' := row intE A c ys :: L) (.inr rfl) rfl Wsb ?_
  exact ⟨ys, hys1, hys2, rfl, rfl⟩
theorem ClipInt_spec (w0 : World) (L : List Asn) (A : Option Addr) (n c : Nat) (hn : n ≤ c) : Tr Try.prog 95 #[.slice A n c] w0 L (fun v L' => v = .slice A n n ∧ L' = L) := by
  refine Tr.enter (args := [.slice A n c]) Try.func95 Try.ntmps95 rfl rfl ?_
  refine GC.seq ?_
  refine GC.region ?_
  refine GL.v Wag ?_
  refine GL.nil ?_
  refine GE.seq ?_
  refine GC.seq ?_
  refine GC.region ?_
  refine GL.v Wmv ?_
  refine GL.v Wmv ?_
  refine GL.v Wln ?_
  refine GL.v Wmv ?_
  refine GL.v Wln ?_
  refine GL.v (by exact EvP.r (Ev.cut3 rfl rfl rfl Wik Wik (by omega) (by omega))) ?_
  refine GL.v Wag ?_
  refine GL.nil ?_
  refine GE.seq ?_
  refine GC.ret ?_
  -- returns, path 
  refine GE.ret_tmp (L' := L) (.inl rfl) rfl rfl Wsb ?_
  exact ⟨rfl, rfl⟩
/-- the different ones of a sorted row -/
theorem Compact_spec (w0 : World) (L : List Asn) (A : Option Addr) (c : Nat) (xs : List Int) (hl : xs.length ≤ 1000) (hs : Upto xs.length xs) :
    Tr Try.prog 113 #[.slice A xs.length c] w0 (row intE A c xs :: L) (fun v L' => ∃ ys, Asc ys ∧ (∀ x, x ∈ ys ↔ x ∈ xs) ∧ ys.length ≤ xs.length ∧ v = .slice A ys.length c ∧ L' = row intE A c ys :: L) := by
  refine Tr.enter (args := [.slice A xs.length c]) Try.func113 Try.ntmps113 rfl rfl ?_
  refine GC.seq ?_
  refine GC.region ?_
  refine GL.v Wag ?_
  refine GL.nil ?_
  refine GE.seq ?_
  refine GC.seq ?_
  refine GC.seq ?_
  refine GC.region ?_
  refine GL.v Wmv ?_
  refine GL.v Wln ?_
  refine GL.v Wls ?_
  refine GL.nil ?_
  refine GE.seq ?_
  refine GC.ifs (fun h1 => ?_) (fun h1 => ?_)
  · -- T
    refine GC.seq ?_
    refine GC.region ?_
    refine GL.v Wmv ?_
    refine GL.v Wag ?_
    refine GL.nil ?_
    refine GE.seq ?_
    refine GC.ret ?_
    refine GE.seq_ret ?_
    -- returns, path T
    refine GE.ret_tmp (L' := row intE A c xs :: L) (.inl rfl) rfl rfl Wsb ?_
    refine ⟨xs, ?_, fun _ => Iff.rfl, Nat.le_refl _, rfl, rfl⟩
    have := (Comp.start (xs := xs) (k := xs.length) (fun i h h' => by omega) hs (Nat.le_refl _)).2.2.1
    rwa [List.take_length] at this
  · -- F
    refine GC.row_cap (by exact Pick.head) fun hc1 hc2 => ?_
    refine GC.skip ?_
    refine GE.seq ?_
    refine GC.seq ?_
    refine GC.seq ?_
    refine GC.region ?_
    refine GL.v Wag ?_
    refine GL.nil ?_
    refine GE.seq ?_
    refine GC.block ?_
    -- loop 1: carried slots [3]
    refine GC.loopK (α := Nat) (fun x => 1 ≤ x ∧ x ≤ xs.length ∧ ∀ i, 0 < i → i < x → at0 xs i ≠ at0 xs (i - 1)) (fun x => [(3, .int .i64 x)]) [(0, _)] (fun x => row intE A c xs :: L) (fun x => xs.length - x) 1 Wkp Wsb ⟨by omega, by omega, fun i h h' => by omega⟩ ?_
    rintro k ⟨hk1, hk2, hne⟩
    refine GC.seq ?_
    refine GC.seq ?_
    refine GC.region ?_
    refine GL.v Wmv ?_
    refine GL.v Wmv ?_
    refine GL.v Wln ?_
    refine GL.v Wls ?_
    refine GL.nil ?_
    refine GE.seq ?_
    refine GC.ifs (fun h2 => ?_) (fun h2 => ?_)
    · -- FT
      have hkl : k < xs.length := by omega
      have e1 : ((k : Int) - 1).toNat = k - 1 := by omega
      refine GC.skip ?_
      refine GE.seq ?_
      refine GC.seq ?_
      refine GC.block ?_
      refine GC.seq ?_
      refine GC.region_quiet mixed (by kernel_rfl) ?_
      refine GL.v Wmv ?_
      refine GL.v Wmv ?_
      refine GL.v Wix ?_
      refine GL.v Wle ?_
      refine GL.v Wmv ?_
      refine GL.v Wmv ?_
      refine GL.v Wsu ?_
      refine GL.v Wix ?_
      refine GL.v Wle ?_
      refine GL.v Weq ?_
      refine GL.nil ?_
      refine GE.seq ?_
      refine GC.ifs (fun h3 => ?_) (fun h3 => ?_)
      · -- FTT
        rw [at0_eq, at0_eq, e1] at h3
        refine GC.seq ?_
        refine GC.region ?_
        refine GL.v Wmv ?_
        refine GL.v Wmv ?_
        refine GL.v (by exact EvP.r (Ev.cut_from rfl rfl Wik (by omega))) ?_
        refine GL.v Wag ?_
        refine GL.nil ?_
        refine GE.seq ?_
        refine GC.seq ?_
        refine GC.seq ?_
        refine GC.region ?_
        refine GL.v Wag ?_
        refine GL.nil ?_
        refine GE.seq ?_
        refine GC.block ?_
        -- loop 2: carried slots [3, 5]
        refine GC.loopK (α := Nat × Nat × List Int) (fun x => x.1 ≤ k + x.2.1 - 1 ∧ 1 ≤ x.2.1 ∧ k + x.2.1 ≤ xs.length ∧ k ≤ x.1 ∧ Comp xs x.2.2 x.1 (k + x.2.1)) (fun x => [(3, .int .i64 x.1), (5, .int .i64 x.2.1)]) [(0, _), (4, _)] (fun x => row intE A c x.2.2 :: L) (fun x => xs.length - x.2.1) (k, 1, xs) Wkp Wsb ⟨by dsimp only; omega, by dsimp only; omega, by dsimp only; omega, by dsimp only; omega, (Comp.start hne hs (by omega)).skip (by omega) hkl h3⟩ ?_
        rintro ⟨k1, k2, ys⟩ ⟨hq1, hq2, hq3, hq4, hcomp⟩
        dsimp only at hq1 hq2 hq3 hq4 hcomp ⊢
        have hyl := hcomp.1
        refine GC.seq ?_
        refine GC.seq ?_
        refine GC.region ?_
        refine GL.v Wmv ?_
        refine GL.v Wmv ?_
        refine GL.v Wln ?_
        refine GL.v Wls ?_
        refine GL.nil ?_
        refine GE.seq ?_
        refine GC.ifs (fun h4 => ?_) (fun h4 => ?_)
        · -- FTTT
          have hR : Rd w0 (row intE A c ys :: L) intE _ (c - k) (ys.drop k) := (Rd.of_pick Pick.head).drop k
          have hdl : (ys.drop k).length = xs.length - k := by simp; omega
          have e2 : ((k2 : Int) - 1).toNat = k2 - 1 := by omega
          have a1 := hcomp.2.2.2.2 (k + k2) (by omega)
          have a2 := hcomp.2.2.2.2 (k + (k2 - 1)) (by omega)
          rw [show k + (k2 - 1) = k + k2 - 1 by omega] at a2
          refine GC.skip ?_
          refine GE.seq ?_
          refine GC.seq ?_
          refine GC.block ?_
          refine GC.seq ?_
          refine GC.region_quiet mixed (by kernel_rfl) ?_
          refine GL.v Wmv ?_
          refine GL.v Wmv ?_
          refine GL.v Wix ?_
          refine GL.v Wle ?_
          refine GL.v Wmv ?_
          refine GL.v Wmv ?_
          refine GL.v Wsu ?_
          refine GL.v Wix ?_
          refine GL.v Wle ?_
          refine GL.v Wnq ?_
          refine GL.nil ?_
          refine GE.seq ?_
          refine GC.ifs (fun h5 => ?_) (fun h5 => ?_)
          · -- FTTTT
            rw [at0_eq, at0_eq, e2, at0_drop, at0_drop, show k + (k2 - 1) = k + k2 - 1 by omega, a1, a2] at h5
            refine GC.seq ?_
            refine GC.region ?_
            refine GL.v Wmv ?_
            refine GL.v Wmv ?_
            refine GL.v Wmv ?_
            refine GL.v Wmv ?_
            refine GL.v Wix ?_
            refine GL.v Wle ?_
            refine GL.v Wix ?_
            refine GL.store_el rfl rfl Wpk rfl rfl rfl (by first | omega | (simp; done) | (simp; omega)) ?_
            refine GL.nil ?_
            refine GE.seq ?_
            refine GC.region ?_
            refine GL.v Wmv ?_
            refine GL.v Wad ?_
            refine GL.v Wag ?_
            refine GL.nil ?_
            refine GE.block ?_
            refine GE.seq ?_
            refine GC.region ?_
            refine GL.v Wmv ?_
            refine GL.v Wad ?_
            refine GL.v Wag ?_
            refine GL.nil ?_
            -- round of loop 2, path FTTTT
            rw [at0_eq, at0_drop, a1]
            refine GE.round (k1 + 1, k2 + 1, ys.set k1 (at0 xs (k + k2))) ⟨by dsimp only; omega, by dsimp only; omega, by dsimp only; omega, by dsimp only; omega, hcomp.put hs (by omega) (by omega) h5⟩ (by dsimp only; omega) Wkp Wsb
          · -- FTTTF
            rw [at0_eq, at0_eq, e2, at0_drop, at0_drop, show k + (k2 - 1) = k + k2 - 1 by omega, a1, a2] at h5
            refine GC.skip ?_
            refine GE.block ?_
            refine GE.seq ?_
            refine GC.region ?_
            refine GL.v Wmv ?_
            refine GL.v Wad ?_
            refine GL.v Wag ?_
            refine GL.nil ?_
            -- round of loop 2, path FTTTF
            refine GE.round (k1, k2 + 1, ys) ⟨by dsimp only; omega, by dsimp only; omega, by dsimp only; omega, by dsimp only; omega, hcomp.skip (by omega) (by omega) h5⟩ (by dsimp only; omega) Wkp Wsb
        · -- FTTF
          have ekk : k + k2 = xs.length := by omega
          rw [ekk] at hcomp
          have hml : (ys.take k1).length = k1 := by simp; omega
          refine GC.exit ?_
          refine GE.seq_exit ?_
          refine GE.loop_exit ?_
          refine GE.block_exit ?_
          refine GE.seq ?_
          refine GC.seq ?_
          refine GC.region ?_
          refine GL.v Wmv ?_
          refine GL.v Wmv ?_
          refine GL.v (by exact EvP.r (Ev.cut_from rfl rfl Wik (by omega))) ?_
          refine GL.clear rfl Wpk (by first | omega | (simp; done) | (simp; omega)) ?_ rfl
          refine GL.nil ?_
          refine GE.seq ?_
          refine GC.seq ?_
          refine GC.region ?_
          refine GL.v Wmv ?_
          refine GL.v Wmv ?_
          refine GL.v (by exact EvP.r (Ev.cut_to rfl rfl Wik (by omega))) ?_
          refine GL.v Wag ?_
          refine GL.nil ?_
          refine GE.seq ?_
          refine GC.ret ?_
          refine GE.block_ret ?_
          refine GE.seq_ret ?_
          refine GE.loop_ret ?_
          refine GE.block_ret ?_
          refine GE.seq_ret ?_
          -- returns, path FTTF
          refine GE.ret_tmp (L' := row intE A c (ys.take k1) :: L) (.inl rfl) rfl rfl Wsb ?_
          refine ⟨ys.take k1, hcomp.2.2.1, fun x => ?_, by omega, by rw [hml], rfl⟩
          rw [hcomp.2.2.2.1, List.take_length]
      · -- FTF
        rw [at0_eq, at0_eq, e1] at h3
        refine GC.skip ?_
        refine GE.block ?_
        refine GE.seq ?_
        refine GC.region ?_
        refine GL.v Wmv ?_
        refine GL.v Wad ?_
        refine GL.v Wag ?_
        refine GL.nil ?_
        -- round of loop 1, path FTF
        refine GE.round (k + 1) ⟨by omega, by omega, fun i h h' => ?_⟩ (by omega) Wkp Wsb
        by_cases e : i = k
        · subst e; exact h3
        · exact hne i h (by omega)
    · -- FF
      have ekk : k = xs.length := by omega
      subst ekk
      refine GC.exit ?_
      refine GE.seq_exit ?_
      refine GE.loop_exit ?_
      refine GE.block_exit ?_
      refine GE.seq ?_
      refine GC.seq ?_
      refine GC.region ?_
      refine GL.v Wmv ?_
      refine GL.v Wag ?_
      refine GL.nil ?_
      refine GE.seq ?_
      refine GC.ret ?_
      -- returns, path FF
      refine GE.ret_tmp (L' := row intE A c xs :: L) (.inl rfl) rfl rfl Wsb ?_
      refine ⟨xs, ?_, fun _ => Iff.rfl, Nat.le_refl _, rfl, rfl⟩
      have := (Comp.start (xs := xs) (k := xs.length) hne hs (Nat.le_refl _)).2.2.1
      rwa [List.take_length] at this
end SG

/- Contracts: what a formula may read; valid graphs. -/
namespace SG
open Go Go.RowKit Go.Proofs
set_option linter.unusedVariables false
set_option linter.unusedSimpArgs false
set_option maxRecDepth 100000

theorem mayRead_spec (w0 : World) (L : List Asn) (A : Option Addr) (c : Nat) (ps : List Part) (hR : Rd w0 L partE A c ps) (hl : ps.length ≤ 12) (hf : ReadsFit ps) :
    Tr Try.prog 88 #[.agg #[.slice A ps.length c]] w0 L (fun v L' => ∃ B, v = .slice B (mayL ps).length (mayL ps).length ∧ L' = row intE B (mayL ps).length (mayL ps) :: L) := by
  refine Tr.enter (args := [.agg #[.slice A ps.length c]]) Try.func88 Try.ntmps88 rfl rfl ?_
  refine GC.seq ?_
  refine GC.region ?_
  refine GL.box_agg rfl rfl ?_; intro g1
  refine GL.v Wag ?_
  refine GL.nil ?_
  refine GE.seq ?_
  refine GC.seq ?_
  refine GC.region ?_
  refine GL.v Wag ?_
  refine GL.nil ?_
  refine GE.seq ?_
  refine GC.seq ?_
  refine GC.seq ?_
  refine GC.region ?_
  refine GL.v Wfa ?_
  refine GL.v Wlb ?_
  refine GL.v Wln ?_
  refine GL.v Wmv ?_
  refine GL.nil ?_
  refine GE.seq ?_
  refine GC.block ?_
  -- loop 1: carried slots [3, 9]
  refine GC.row0 intE none ?_
  refine GC.loopK (α := Nat × Option Addr × Nat) (fun x => x.1 ≤ ps.length) (fun x => [(3, .slice x.2.1 (readsOf (ps.take x.1)).length x.2.2), (9, .int .i64 x.1)]) [(7, _), (8, _)] (fun x => row intE x.2.1 x.2.2 (readsOf (ps.take x.1)) :: L) (fun x => ps.length - x.1) (0, none, 0) Wkp Wsb (Nat.zero_le _) ?_
  rintro ⟨i, B, d⟩ hi
  dsimp only at hi ⊢
  have hrl := readsOf_length (ps.take i)
  rw [List.length_take] at hrl
  refine GC.seq ?_
  refine GC.region ?_
  refine GL.v Wls ?_
  refine GL.nil ?_
  refine GE.seq ?_
  refine GC.seq ?_
  refine GC.ifs (fun h1 => ?_) (fun h1 => ?_)
  · -- T
    have hil : i < ps.length := by omega
    refine GC.skip ?_
    refine GE.seq ?_
    refine GC.seq ?_
    refine GC.block ?_
    refine GC.seq ?_
    refine GC.region ?_
    refine GL.v Wix ?_
    refine GL.v Wle ?_
    refine GL.alloc rfl ?_; intro g5
    refine GL.store_varN rfl rfl rfl Wpk (by rfl) (by rfl) (by rfl) ?_
    refine GL.nil ?_
    refine GE.seq ?_
    refine GC.seq ?_
    refine GC.region ?_
    refine GL.v Wfa ?_
    refine GL.v Wlb ?_
    refine GL.v Weq ?_
    refine GL.nil ?_
    refine GE.seq ?_
    refine GC.ifs (fun h2 => ?_) (fun h2 => ?_)
    · -- TT
      refine GC.region ?_
      refine GL.v Wmv ?_
      refine GL.v Wfa ?_
      refine GL.v Wlb ?_
      refine GL.buildSlice rfl (by first | exact bsInt0 | exact bsInt1 _ | exact bsInt2 _ _ | exact bsInt3 _ _ _ | exact bsInt4 _ _ _ _ | exact bsInt5 _ _ _ _ _ | exact bsInt6 _ _ _ _ _ _ | exact bsInt7 _ _ _ _ _ _ _ | exact bsInt8 _ _ _ _ _ _ _ _ | exact bsInt9 _ _ _ _ _ _ _ _ _ | exact bsInt10 _ _ _ _ _ _ _ _ _ _ | exact bsPart0 | exact bsPart1 ⟨_, _, _, _, _⟩ | exact bsNode1 ⟨_, _, _, _⟩ | exact bsPtr3 _ _ _ | exact bsSl0 | exact bsSl1 ⟨_, _, _⟩) rfl (by decide) rfl ?_; intro g19
      first | (refine GL.append rfl rfl Wpk (by assumption) Wim (by first | rfl | (simp; done) | (simp; omega)) (by first | rfl | (simp; done) | (simp; omega)) (by first | omega | (simp; omega)) (by first | omega | (simp; omega)) rfl ?_; intro A20 c20) | (refine GL.append rfl rfl Wpk (Rd.of_pick Wpk) Imp.refl (by first | rfl | (simp; done) | (simp; omega)) (by first | rfl | (simp; done) | (simp; omega)) (by first | omega | (simp; omega)) (by first | omega | (simp; omega)) rfl ?_; intro A20 c20)
      refine GL.v Wag ?_
      refine GL.nil ?_
      refine GE.block ?_
      refine GE.seq ?_
      refine GC.region ?_
      refine GL.v Wad ?_
      refine GL.v Wmv ?_
      refine GL.nil ?_
      -- round of loop 1, path TT
      rw [← readsOf_hit hil h2]
      refine GE.round (i + 1, _, _) (by dsimp only; omega) (by dsimp only; omega) Wkp Wsb
    · -- TF
      refine GC.skip ?_
      refine GE.block ?_
      refine GE.seq ?_
      refine GC.region ?_
      refine GL.v Wad ?_
      refine GL.v Wmv ?_
      refine GL.nil ?_
      -- round of loop 1, path TF
      refine GE.round (i + 1, B, d) (by dsimp only; omega) (by dsimp only; omega) (by dsimp only; rw [readsOf_miss hil h2]; repeat (first | exact Keeps.nil | refine Keeps.cons rfl ?_)) (by dsimp only; rw [readsOf_miss hil h2]; exact Wsb)
  · -- F
    have hie : i = ps.length := by omega
    subst hie
    rw [List.take_length]
    have hrl2 := readsOf_length ps
    refine GC.exit ?_
    refine GE.seq_exit ?_
    refine GE.loop_exit ?_
    refine GE.block_exit ?_
    refine GE.seq ?_
    refine GC.seq ?_
    refine GC.region ?_
    refine GL.v Wmv ?_
    refine GL.callP rfl rfl Wpk (Sort_spec _ _ _ _ _ (by omega)) ?_
    rintro _ _ ⟨ys, hys1, hys2, rfl, rfl⟩
    have e1 : (readsOf ps).length = ys.length := hys1.1.symm
    rw [e1]
    refine GL.nil ?_
    refine GE.seq ?_
    refine GC.seq ?_
    refine GC.region ?_
    refine GL.v Wmv ?_
    refine GL.callP rfl rfl Wpk (Compact_spec _ _ _ _ _ (by omega) hys2) ?_
    rintro _ _ ⟨zs, hz1, hz2, hz3, rfl, rfl⟩
    obtain rfl := mayL_eq hf hz1 (fun x => (hz2 x).trans (hys1.2 x))
    refine GL.row_cap (by exact Pick.head) fun hc1 hc2 => ?_
    refine GL.callF rfl rfl (ClipInt_spec _ _ _ _ _ (by omega)) ?_
    refine GL.row_clip (by exact Pick.head) ?_
    refine GL.v Wag ?_
    refine GL.nil ?_
    refine GE.seq ?_
    refine GC.ret ?_
    -- returns, path F
    refine GE.ret_tmp (L' := row intE B (mayL ps).length (mayL ps) :: L) (.inl rfl) rfl rfl Wsb ?_
    exact ⟨B, rfl, rfl⟩
theorem smayRead_spec (w0 : World) (L : List Asn) (A : Option Addr) (c : Nat) (ps : List Part) (hR : Rd w0 L partE A c ps) (hl : ps.length ≤ 1100000) :
    Tr Try.prog 124 #[.agg #[.slice A ps.length c]] w0 L (fun v L' => ∃ B d, v = .slice B (mayL ps).length d ∧ L' = row intE B d (mayL ps) :: L) := by
  refine Tr.enter (args := [.agg #[.slice A ps.length c]]) Try.func124 Try.ntmps124 rfl rfl ?_
  refine GC.seq ?_
  refine GC.region ?_
  refine GL.box_agg rfl rfl ?_; intro g1
  refine GL.v Wag ?_
  refine GL.nil ?_
  refine GE.seq ?_
  refine GC.seq ?_
  refine GC.region ?_
  refine GL.buildSlice rfl (by first | exact bsInt0 | exact bsInt1 _ | exact bsInt2 _ _ | exact bsInt3 _ _ _ | exact bsInt4 _ _ _ _ | exact bsInt5 _ _ _ _ _ | exact bsInt6 _ _ _ _ _ _ | exact bsInt7 _ _ _ _ _ _ _ | exact bsInt8 _ _ _ _ _ _ _ _ | exact bsInt9 _ _ _ _ _ _ _ _ _ | exact bsInt10 _ _ _ _ _ _ _ _ _ _ | exact bsPart0 | exact bsPart1 ⟨_, _, _, _, _⟩ | exact bsNode1 ⟨_, _, _, _⟩ | exact bsPtr3 _ _ _ | exact bsSl0 | exact bsSl1 ⟨_, _, _⟩) rfl (by decide) rfl ?_; intro g6
  refine GL.v Wag ?_
  refine GL.nil ?_
  refine GE.seq ?_
  refine GC.seq ?_
  refine GC.seq ?_
  refine GC.region ?_
  refine GL.v Wag ?_
  refine GL.nil ?_
  refine GE.seq ?_
  refine GC.block ?_
  -- loop 1: carried slots [3, 4]
  refine GC.loopK (α := Nat × Option Addr × Nat) (fun x => x.1 ≤ 10) (fun x => [(3, .slice x.2.1 (mayU x.1 ps).length x.2.2), (4, .int .i64 x.1)]) [(1, _)] (fun x => row intE x.2.1 x.2.2 (mayU x.1 ps) :: blk g1 69 [.slice A ps.length c] :: L) (fun x => 10 - x.1) (0, some ⟨g6, 0, none⟩, 0) Wkp Wsb (Nat.zero_le _) ?_
  rintro ⟨n, B, d⟩ hn
  dsimp only at hn ⊢
  have hml := mayU_length n ps
  refine GC.seq ?_
  refine GC.seq ?_
  refine GC.region ?_
  refine GL.v Wmv ?_
  refine GL.v Wls ?_
  refine GL.nil ?_
  refine GE.seq ?_
  refine GC.ifs (fun h1 => ?_) (fun h1 => ?_)
  · -- T
    have hn10 : n < 10 := by omega
    refine GC.skip ?_
    refine GE.seq ?_
    refine GC.seq ?_
    refine GC.block ?_
    refine GC.seq ?_
    refine GC.region ?_
    refine GL.v Wag ?_
    refine GL.nil ?_
    refine GE.seq ?_
    refine GC.block ?_
    -- loop 2: carried slots [3, 5]
    refine GC.loopK (α := Nat) (fun i => i ≤ ps.length ∧ ∀ i' (h : i' < i) (h' : i' < ps.length), ¬ (ps[i'].kind = 1 ∧ ps[i'].n = n)) (fun i => [(3, .slice B (mayU n ps).length d), (5, .int .i64 i)]) [(1, _), (4, _)] (fun i => row intE B d (mayU n ps) :: blk g1 69 [.slice A ps.length c] :: L) (fun i => ps.length - i) 0 Wkp Wsb ⟨Nat.zero_le _, fun _ h => by omega⟩ ?_
    rintro i ⟨hi, hno⟩
    refine GC.seq ?_
    refine GC.seq ?_
    refine GC.region ?_
    refine GL.v Wmv ?_
    refine GL.v Wfa ?_
    refine GL.v Wlb ?_
    refine GL.v Wln ?_
    refine GL.v Wls ?_
    refine GL.nil ?_
    refine GE.seq ?_
    refine GC.ifs (fun h2 => ?_) (fun h2 => ?_)
    · -- TT
      have hil : i < ps.length := by omega
      refine GC.skip ?_
      refine GE.seq ?_
      refine GC.seq ?_
      refine GC.block ?_
      refine GC.seq ?_
      refine GC.region ?_
      refine GL.v Wfa ?_
      refine GL.v Wlb ?_
      refine GL.v Wmv ?_
      refine GL.v Wix ?_
      refine GL.v Wfa ?_
      refine GL.v Wlef ?_
      refine GL.v Weq ?_
      refine GL.v Wmv ?_
      refine GL.gs (fun h3 => ?_) (fun h3 => ?_)
      · -- TTt
        refine GL.want rfl rfl ?_
        refine GL.v Wfa ?_
        refine GL.want rfl rfl ?_
        refine GL.v Wlb ?_
        refine GL.want rfl rfl ?_
        refine GL.v Wmv ?_
        refine GL.want rfl rfl ?_
        refine GL.v Wix ?_
        refine GL.want rfl rfl ?_
        refine GL.v Wfa ?_
        refine GL.want rfl rfl ?_
        refine GL.v Wlef ?_
        refine GL.want rfl rfl ?_
        refine GL.v Wmv ?_
        refine GL.want rfl rfl ?_
        refine GL.v Weq ?_
        refine GL.v Wpt ?_
        refine GL.nil ?_
        refine GE.seq ?_
        refine GC.ifs (fun h4 => ?_) (fun h4 => ?_)
        · -- TTtT
          refine GC.seq ?_
          refine GC.region ?_
          refine GL.v Wmv ?_
          refine GL.v Wmv ?_
          refine GL.buildSlice rfl (by first | exact bsInt0 | exact bsInt1 _ | exact bsInt2 _ _ | exact bsInt3 _ _ _ | exact bsInt4 _ _ _ _ | exact bsInt5 _ _ _ _ _ | exact bsInt6 _ _ _ _ _ _ | exact bsInt7 _ _ _ _ _ _ _ | exact bsInt8 _ _ _ _ _ _ _ _ | exact bsInt9 _ _ _ _ _ _ _ _ _ | exact bsInt10 _ _ _ _ _ _ _ _ _ _ | exact bsPart0 | exact bsPart1 ⟨_, _, _, _, _⟩ | exact bsNode1 ⟨_, _, _, _⟩ | exact bsPtr3 _ _ _ | exact bsSl0 | exact bsSl1 ⟨_, _, _⟩) rfl (by decide) rfl ?_; intro g37
          first | (refine GL.append rfl rfl Wpk (by assumption) Wim (by first | rfl | (simp; done) | (simp; omega)) (by first | rfl | (simp; done) | (simp; omega)) (by first | omega | (simp; omega)) (by first | omega | (simp; omega)) rfl ?_; intro A38 c38) | (refine GL.append rfl rfl Wpk (Rd.of_pick Wpk) Imp.refl (by first | rfl | (simp; done) | (simp; omega)) (by first | rfl | (simp; done) | (simp; omega)) (by first | omega | (simp; omega)) (by first | omega | (simp; omega)) rfl ?_; intro A38 c38)
          refine GL.v Wag ?_
          refine GL.nil ?_
          refine GE.seq ?_
          refine GC.exit ?_
          refine GE.block_past rfl ?_
          refine GE.seq_exit ?_
          refine GE.loop_exit ?_
          refine GE.block_exit ?_
          refine GE.block ?_
          refine GE.seq ?_
          refine GC.region ?_
          refine GL.v Wmv ?_
          refine GL.v Wad ?_
          refine GL.v Wag ?_
          refine GL.nil ?_
          -- round of loop 1, path TTtT
          rw [← mayU_hit hil h3 h4]
          refine GE.round (n + 1, _, _) (by dsimp only; omega) (by dsimp only; omega) Wkp Wsb
        · -- TTtF
          refine GC.skip ?_
          refine GE.block ?_
          refine GE.seq ?_
          refine GC.region ?_
          refine GL.v Wmv ?_
          refine GL.v Wad ?_
          refine GL.v Wag ?_
          refine GL.nil ?_
          -- round of loop 2, path TTtF
          refine GE.round (i + 1) ⟨by omega, fun i' h h' => ?_⟩ (by omega) Wkp Wsb
          by_cases e : i' = i
          · subst e; exact fun h => h4 h.2
          · exact hno i' (by omega) h'
      · -- TTf
        refine GL.unwant rfl rfl rfl rfl ?_
        refine GL.unwant rfl rfl rfl rfl ?_
        refine GL.unwant rfl rfl rfl rfl ?_
        refine GL.unwant rfl rfl rfl rfl ?_
        refine GL.unwant rfl rfl rfl rfl ?_
        refine GL.unwant rfl rfl rfl rfl ?_
        refine GL.unwant rfl rfl rfl rfl ?_
        refine GL.unwant rfl rfl rfl rfl ?_
        refine GL.v Wpf ?_
        refine GL.nil ?_
        refine GE.seq ?_
        refine GC.cond_false rfl ?_
        refine GC.skip ?_
        refine GE.block ?_
        refine GE.seq ?_
        refine GC.region ?_
        refine GL.v Wmv ?_
        refine GL.v Wad ?_
        refine GL.v Wag ?_
        refine GL.nil ?_
        -- round of loop 2, path TTf
        refine GE.round (i + 1) ⟨by omega, fun i' h h' => ?_⟩ (by omega) Wkp Wsb
        by_cases e : i' = i
        · subst e; exact fun h => h3 h.1
        · exact hno i' (by omega) h'
    · -- TF
      refine GC.exit ?_
      refine GE.seq_exit ?_
      refine GE.loop_exit ?_
      refine GE.block_exit ?_
      refine GE.block ?_
      refine GE.seq ?_
      refine GC.region ?_
      refine GL.v Wmv ?_
      refine GL.v Wad ?_
      refine GL.v Wag ?_
      refine GL.nil ?_
      -- round of loop 1, path TF
      have hm := mayU_miss (n := n) (ps := ps) (fun i' h' => hno i' (by omega) h')
      refine GE.round (n + 1, B, d) (by dsimp only; omega) (by dsimp only; omega) (by dsimp only; rw [hm]; repeat (first | exact Keeps.nil | refine Keeps.cons rfl ?_)) (by dsimp only; rw [hm]; exact Wsb)
  · -- F
    have hne : n = 10 := by omega
    subst hne
    rw [mayU_ten]
    refine GC.exit ?_
    refine GE.seq_exit ?_
    refine GE.loop_exit ?_
    refine GE.block_exit ?_
    refine GE.seq ?_
    refine GC.seq ?_
    refine GC.region ?_
    refine GL.v Wmv ?_
    refine GL.v Wag ?_
    refine GL.nil ?_
    refine GE.seq ?_
    refine GC.ret ?_
    -- returns, path F
    refine GE.ret_tmp (L' := row intE B d (mayL ps) :: L) (.inl rfl) rfl rfl Wsb ?_
    exact ⟨B, d, rfl, rfl⟩

/-- a graph is read -/
structure RdG (w0 : World) (L : List Asn) (A : Option Addr) (c : Nat) (ms : List NdM) : Prop where
  nodes : Rd w0 L nodeE A c ms
  parts : ∀ i (h : i < ms.length), Rd w0 L partE ms[i].a ms[i].c ms[i].parts
theorem RdG.imp {w0 : World} {L L' : List Asn} {A : Option Addr} {c : Nat} {ms : List NdM} (h : RdG w0 L' A c ms) (hi : Imp w0 L L') : RdG w0 L A c ms := ⟨h.nodes.imp hi, fun i hl => (h.parts i hl).imp hi⟩
def gr (ms : List NdM) : List Nd := ms.map NdM.nd
@[simp] theorem gr_length (ms : List NdM) : (gr ms).length = ms.length := by simp [gr]
theorem gr_get {ms : List NdM} {i : Nat} (h : i < (gr ms).length) : (gr ms)[i] = (ms[i]'(by simpa using h)).nd := by simp [gr]
theorem kindAt_gr {ms : List NdM} {k : Int} (h : k.toNat < ms.length) : kindAt (gr ms) k = ms[k.toNat].kind := by
  simp [kindAt, gr, h, NdM.nd]
/-- the sizes of a graph that a law hands on -/
def SizeG (ms : List NdM) : Prop := ms.length ≤ 1100000 ∧ ∀ i (h : i < ms.length), ms[i].parts.length ≤ 1100000

theorem SizeG.le {ms : List NdM} (h : SizeG ms) : ms.length ≤ 1100000 := h.1
theorem goodReads_spec (w0 : World) (L : List Asn) (A : Option Addr) (c : Nat) (ms : List NdM) (hG : RdG w0 L A c ms) (i : Nat) (hi : i < ms.length) (hl : ms[i].parts.length ≤ 1100000) :
    Tr Try.prog 101 #[.agg #[.slice A ms.length c], .int .i64 i] w0 L (fun v L' => v = .bool (readsOkB (gr ms) i ms[i].parts) ∧ L' = L) := by
  have hN := hG.nodes
  have hP := hG.parts i hi
  refine Tr.enter (args := [.agg #[.slice A ms.length c], .int .i64 i]) Try.func101 Try.ntmps101 rfl rfl ?_
  refine GC.seq ?_
  refine GC.region ?_
  refine GL.box_agg rfl rfl ?_; intro g2
  refine GL.v Wag ?_
  refine GL.nil ?_
  refine GE.seq ?_
  refine GC.seq ?_
  refine GC.region ?_
  refine GL.v Wfa ?_
  refine GL.v Wlb ?_
  refine GL.v Wmv ?_
  refine GL.v Wix ?_
  refine GL.v Wfa ?_
  refine GL.v Wlef1 ?_
  refine GL.call rfl rfl (smayRead_spec _ _ _ _ _ Wrd Wom) ?_
  rintro _ _ ⟨B13, d13, rfl, rfl⟩
  have hml := mayL_length ms[i].parts
  refine GL.v Wag ?_
  refine GL.nil ?_
  refine GE.seq ?_
  refine GC.seq ?_
  refine GC.seq ?_
  refine GC.region ?_
  refine GL.v Wag ?_
  refine GL.nil ?_
  refine GE.seq ?_
  refine GC.block ?_
  -- loop 1: carried slots [6]
  refine GC.loopK (α := Nat) (fun k => k ≤ (mayL ms[i].parts).length ∧ ∀ k' (h : k' < k) (h' : k' < (mayL ms[i].parts).length), (mayL ms[i].parts)[k'] < i ∧ kindAt (gr ms) (mayL ms[i].parts)[k'] ≠ 2) (fun k => [(6, .int .i64 k)]) [(1, _), (2, _), (5, _)] (fun k => row intE B13 d13 (mayL ms[i].parts) :: blk g2 25 [.slice A ms.length c] :: L) (fun k => (mayL ms[i].parts).length - k) 0 Wkp Wsb ⟨Nat.zero_le _, fun _ h => by omega⟩ ?_
  rintro k ⟨hk, hok⟩
  refine GC.seq ?_
  refine GC.seq ?_
  refine GC.region ?_
  refine GL.v Wmv ?_
  refine GL.v Wmv ?_
  refine GL.v Wln ?_
  refine GL.v Wls ?_
  refine GL.nil ?_
  refine GE.seq ?_
  refine GC.ifs (fun h1 => ?_) (fun h1 => ?_)
  · -- T
    have hkl : k < (mayL ms[i].parts).length := by omega
    have hk0 := (mem_mayL.1 (List.getElem_mem hkl)).1
    refine GC.skip ?_
    refine GE.seq ?_
    refine GC.seq ?_
    refine GC.block ?_
    refine GC.seq ?_
    refine GC.region_quiet mixed (by kernel_rfl) ?_
    refine GL.v Wmv ?_
    refine GL.v Wmv ?_
    refine GL.v Wix ?_
    refine GL.v Wle ?_
    refine GL.v Wmv ?_
    refine GL.v Wgq ?_
    refine GL.v Wmv ?_
    refine GL.gs (fun h2 => ?_) (fun h2 => ?_)
    · -- Tt
      refine GL.unwant rfl rfl rfl rfl ?_
      refine GL.unwant rfl rfl rfl rfl ?_
      refine GL.unwant rfl rfl rfl rfl ?_
      refine GL.unwant rfl rfl rfl rfl ?_
      refine GL.unwant rfl rfl rfl rfl ?_
      refine GL.unwant rfl rfl rfl rfl ?_
      refine GL.unwant rfl rfl rfl rfl ?_
      refine GL.unwant rfl rfl rfl rfl ?_
      refine GL.unwant rfl rfl rfl rfl ?_
      refine GL.unwant rfl rfl rfl rfl ?_
      refine GL.v Wpt ?_
      refine GL.nil ?_
      refine GE.seq ?_
      refine GC.cond_true rfl ?_
      refine GC.seq ?_
      refine GC.region ?_
      refine GL.v Wag ?_
      refine GL.nil ?_
      refine GE.seq ?_
      refine GC.ret ?_
      refine GE.block_ret ?_
      refine GE.seq_ret ?_
      refine GE.loop_ret ?_
      refine GE.block_ret ?_
      refine GE.seq_ret ?_
      -- returns, path Tt
      refine GE.ret_tmp (L' := L) (.inl rfl) rfl rfl Wsb ?_
      exact ⟨by rw [readsOkB_not.2 (fun h => by have := (h _ (List.getElem_mem hkl)).1; omega)], rfl⟩
    · -- Tf
      refine GL.want rfl rfl ?_
      refine GL.v Wfa ?_
      refine GL.want rfl rfl ?_
      refine GL.v Wlb ?_
      refine GL.want rfl rfl ?_
      refine GL.v Wmv ?_
      refine GL.want rfl rfl ?_
      refine GL.v Wmv ?_
      refine GL.want rfl rfl ?_
      refine GL.v Wix ?_
      refine GL.want rfl rfl ?_
      refine GL.v Wle ?_
      refine GL.want rfl rfl ?_
      refine GL.v Wix ?_
      refine GL.want rfl rfl ?_
      refine GL.v Wfa ?_
      refine GL.want rfl rfl ?_
      refine GL.v Wlef ?_
      refine GL.want rfl rfl ?_
      refine GL.v Weq ?_
      refine GL.v Wpf ?_
      refine GL.nil ?_
      refine GE.seq ?_
      refine GC.ifs (fun h3 => ?_) (fun h3 => ?_)
      · -- TfT
        refine GC.seq ?_
        refine GC.region ?_
        refine GL.v Wag ?_
        refine GL.nil ?_
        refine GE.seq ?_
        refine GC.ret ?_
        refine GE.block_ret ?_
        refine GE.seq_ret ?_
        refine GE.loop_ret ?_
        refine GE.block_ret ?_
        refine GE.seq_ret ?_
        -- returns, path TfT
        refine GE.ret_tmp (L' := L) (.inl rfl) rfl rfl Wsb ?_
        exact ⟨by rw [readsOkB_not.2 (fun h => (h _ (List.getElem_mem hkl)).2 (by rw [kindAt_gr (by omega)]; exact h3))], rfl⟩
      · -- TfF
        refine GC.skip ?_
        refine GE.block ?_
        refine GE.seq ?_
        refine GC.region ?_
        refine GL.v Wmv ?_
        refine GL.v Wad ?_
        refine GL.v Wag ?_
        refine GL.nil ?_
        -- round of loop 1, path TfF
        refine GE.round (k + 1) ⟨by omega, fun k' h h' => ?_⟩ (by omega) Wkp Wsb
        by_cases e : k' = k
        · subst e; exact ⟨by omega, by rw [kindAt_gr (by omega)]; exact h3⟩
        · exact hok k' (by omega) h'
  · -- F
    refine GC.exit ?_
    refine GE.seq_exit ?_
    refine GE.loop_exit ?_
    refine GE.block_exit ?_
    refine GE.seq ?_
    refine GC.seq ?_
    refine GC.region ?_
    refine GL.v Wag ?_
    refine GL.nil ?_
    refine GE.seq ?_
    refine GC.ret ?_
    -- returns, path F
    refine GE.ret_tmp (L' := L) (.inl rfl) rfl rfl Wsb ?_
    exact ⟨by rw [readsOkB_iff.2 (fun n hn => by obtain ⟨k', h', rfl⟩ := List.mem_iff_getElem.1 hn; exact hok k' (by omega) h')], rfl⟩
end SG

/- Contracts: ValidGraph of both. -/
namespace SG
open Go Go.RowKit Go.Proofs
set_option linter.unusedVariables false
set_option linter.unusedSimpArgs false
set_option maxRecDepth 100000

theorem not_good {ms : List NdM} {i : Nat} (hi : i < ms.length) (h : ¬ GoodNd (gr ms) i ms[i].nd) : validG (gr ms) = false :=
  validG_not.2 fun hv => h (by have := hv.2 i (by simpa using hi); rwa [gr_get] at this)
theorem bad_cell {ms : List NdM} {i : Nat} (hi : i < ms.length) (hk : ms[i].kind = 0) (h : 0 < ms[i].parts.length) : validG (gr ms) = false := not_good hi fun hg => by
  rcases hg with hg | hg
  · have := hg.2; simp only [NdM.nd] at this; rw [this] at h; simp at h
  · have := hg.1; simp only [NdM.nd] at this; omega
theorem bad_node {ms : List NdM} {i : Nat} (hi : i < ms.length) (hk : ms[i].kind ≠ 0) (h : ¬ (ValidP ms[i].parts ∧ ReadsOk (gr ms) i ms[i].parts)) : validG (gr ms) = false := not_good hi fun hg => by
  rcases hg with hg | hg
  · exact hk hg.1
  · exact h hg.2
theorem bad_kind {ms : List NdM} {i : Nat} (hi : i < ms.length) (h0 : ms[i].kind ≠ 0) (h1 : ms[i].kind ≠ 1) (h2 : ms[i].kind ≠ 2) : validG (gr ms) = false := not_good hi fun hg => by
  rcases hg with hg | hg
  · exact h0 hg.1
  · rcases hg.1 with h | h
    · exact h1 h
    · exact h2 h
theorem all_good {ms : List NdM} (h : ∀ j (hj : j < ms.length), GoodNd (gr ms) j ms[j].nd) : validG (gr ms) = decide ((ms.length : Int) ≤ 10) := by
  by_cases hl : ms.length ≤ 10
  · have e : decide ((ms.length : Int) ≤ 10) = true := decide_eq_true (by omega)
    rw [e, validG_iff.2 ⟨by simpa using hl, fun i hi => by rw [gr_get]; exact h i (by simpa using hi)⟩]
  · have e : decide ((ms.length : Int) ≤ 10) = false := decide_eq_false (by omega)
    rw [e, validG_not.2 (fun hv => hl (by simpa using hv.1))]

theorem svalidGraph_spec (w0 : World) (L : List Asn) (A : Option Addr) (c : Nat) (ms : List NdM) (hG : RdG w0 L A c ms) (hS : SizeG ms) :
    Tr Try.prog 75 #[.agg #[.slice A ms.length c]] w0 L (fun v L' => v = .bool (validG (gr ms)) ∧ L' = L) := by
  have hN := hG.nodes
  have hSl := hS.1
  refine Tr.enter (args := [.agg #[.slice A ms.length c]]) Try.func75 Try.ntmps75 rfl rfl ?_
  refine GC.seq ?_
  refine GC.region ?_
  refine GL.box_agg rfl rfl ?_; intro g1
  refine GL.v Wag ?_
  refine GL.nil ?_
  refine GE.seq ?_
  refine GC.seq ?_
  refine GC.seq ?_
  refine GC.region ?_
  refine GL.v Wag ?_
  refine GL.nil ?_
  refine GE.seq ?_
  refine GC.block ?_
  -- loop 1: carried slots [3]
  refine GC.loopK (α := Nat) (fun i => i ≤ ms.length ∧ ∀ j (h : j < i) (h' : j < ms.length), GoodNd (gr ms) j ms[j].nd) (fun i => [(3, .int .i64 i)]) [(1, _)] (fun i => blk g1 25 [.slice A ms.length c] :: L) (fun i => ms.length - i) 0 Wkp Wsb ⟨Nat.zero_le _, fun _ h => by omega⟩ ?_
  rintro i ⟨hi, hok⟩
  refine GC.seq ?_
  refine GC.seq ?_
  refine GC.region ?_
  refine GL.v Wmv ?_
  refine GL.v Wfa ?_
  refine GL.v Wlb ?_
  refine GL.v Wln ?_
  refine GL.v Wls ?_
  refine GL.nil ?_
  refine GE.seq ?_
  refine GC.ifs (fun h1 => ?_) (fun h1 => ?_)
  · -- T
    have hil : i < ms.length := by omega
    have hP := hG.parts i hil
    have hSi := hS.2 i hil
    refine GC.skip ?_
    refine GE.seq ?_
    refine GC.seq ?_
    refine GC.block ?_
    refine GC.seq ?_
    refine GC.region ?_
    refine GL.v Wfa ?_
    refine GL.v Wlb ?_
    refine GL.v Wmv ?_
    refine GL.v Wix ?_
    refine GL.v Wle ?_
    refine GL.alloc rfl ?_; intro g4
    refine GL.store_varN rfl rfl rfl Wpk (by rfl) (by rfl) (by rfl) ?_
    refine GL.nil ?_
    refine GE.seq ?_
    refine GC.seq ?_
    refine GC.region ?_
    refine GL.v Wfa ?_
    refine GL.v Wlb ?_
    refine GL.nil ?_
    refine GE.seq ?_
    refine GC.block ?_
    refine GC.seq ?_
    refine GC.region ?_
    refine GL.v Weq ?_
    refine GL.v Wag ?_
    refine GL.nil ?_
    refine GE.seq ?_
    refine GC.ifs (fun h2 => ?_) (fun h2 => ?_)
    · -- TT
      refine GC.seq ?_
      refine GC.region ?_
      refine GL.v Wfa ?_
      refine GL.v Wfa ?_
      refine GL.v Wlb ?_
      refine GL.v Wln ?_
      refine GL.v Wgt ?_
      refine GL.nil ?_
      refine GE.seq ?_
      refine GC.ifs (fun h3 => ?_) (fun h3 => ?_)
      · -- TTT
        refine GC.seq ?_
        refine GC.region ?_
        refine GL.v Wag ?_
        refine GL.nil ?_
        refine GE.seq ?_
        refine GC.ret ?_
        refine GE.block_ret ?_
        refine GE.block_ret ?_
        refine GE.seq_ret ?_
        refine GE.loop_ret ?_
        refine GE.block_ret ?_
        refine GE.seq_ret ?_
        -- returns, path TTT
        refine GE.ret_tmp (L' := L) (.inl rfl) rfl rfl Wsb ?_
        exact ⟨by rw [bad_cell hil h2 (by omega)], rfl⟩
      · -- TTF
        refine GC.skip ?_
        refine GE.block ?_
        refine GE.block ?_
        refine GE.seq ?_
        refine GC.region ?_
        refine GL.v Wmv ?_
        refine GL.v Wad ?_
        refine GL.v Wag ?_
        refine GL.nil ?_
        -- round of loop 1, path TTF
        refine GE.round (i + 1) ⟨by omega, fun j h h' => ?_⟩ (by omega) Wkp Wsb
        by_cases e : j = i
        · subst e; exact .inl ⟨h2, List.length_eq_zero_iff.1 (by simp only [NdM.nd]; omega)⟩
        · exact hok j (by omega) h'
    · -- TF
      refine GC.seq ?_
      refine GC.seq ?_
      refine GC.region ?_
      refine GL.v Weq ?_
      refine GL.v Wag ?_
      refine GL.nil ?_
      refine GE.seq ?_
      refine GC.ifs (fun h3 => ?_) (fun h3 => ?_)
      · -- TFT
        refine GC.skip ?_
        refine GE.seq ?_
        refine GC.cond_true rfl ?_
        refine GC.seq ?_
        refine GC.region ?_
        refine GL.v Wfa ?_
        refine GL.v Wlb1 ?_
        refine GL.callF rfl rfl (validFormula_spec _ _ _ _ _ Wrd Wom) ?_
        refine GL.v Wnt ?_
        refine GL.v Wmv ?_
        refine GL.gs (fun h4 => ?_) (fun h4 => ?_)
        · -- TFTt
          rw [validF_not] at h4
          refine GL.unwant rfl rfl rfl rfl ?_
          refine GL.unwant rfl rfl rfl rfl ?_
          refine GL.unwant rfl rfl rfl rfl ?_
          refine GL.unwant rfl rfl rfl rfl ?_
          refine GL.v Wpt ?_
          refine GL.nil ?_
          refine GE.seq ?_
          refine GC.cond_true rfl ?_
          refine GC.seq ?_
          refine GC.region ?_
          refine GL.v Wag ?_
          refine GL.nil ?_
          refine GE.seq ?_
          refine GC.ret ?_
          refine GE.block_ret ?_
          refine GE.block_ret ?_
          refine GE.seq_ret ?_
          refine GE.loop_ret ?_
          refine GE.block_ret ?_
          refine GE.seq_ret ?_
          -- returns, path TFTt
          refine GE.ret_tmp (L' := L) (.inl rfl) rfl rfl Wsb ?_
          exact ⟨by rw [bad_node hil (by omega) (fun h => h4 h.1)], rfl⟩
        · -- TFTf
          rw [validF_iff] at h4
          refine GL.want rfl rfl ?_
          refine GL.v Wlba ?_
          refine GL.want rfl rfl ?_
          refine GL.v Wmv ?_
          refine GL.want rfl rfl ?_
          refine GL.callF rfl rfl (goodReads_spec _ _ _ _ _ (RdG.imp (by assumption) Wim) _ Wom Wom) ?_
          refine GL.want rfl rfl ?_
          refine GL.v Wnt ?_
          refine GL.v Wpf ?_
          refine GL.nil ?_
          refine GE.seq ?_
          refine GC.ifs (fun h5 => ?_) (fun h5 => ?_)
          · -- TFTfT
            refine GC.seq ?_
            refine GC.region ?_
            refine GL.v Wag ?_
            refine GL.nil ?_
            refine GE.seq ?_
            refine GC.ret ?_
            refine GE.block_ret ?_
            refine GE.block_ret ?_
            refine GE.seq_ret ?_
            refine GE.loop_ret ?_
            refine GE.block_ret ?_
            refine GE.seq_ret ?_
            -- returns, path TFTfT
            refine GE.ret_tmp (L' := L) (.inl rfl) rfl rfl Wsb ?_
            exact ⟨by rw [bad_node hil (by omega) (fun h => readsOkB_not.1 h5 h.2)], rfl⟩
          · -- TFTfF
            refine GC.skip ?_
            refine GE.block ?_
            refine GE.block ?_
            refine GE.seq ?_
            refine GC.region ?_
            refine GL.v Wmv ?_
            refine GL.v Wad ?_
            refine GL.v Wag ?_
            refine GL.nil ?_
            -- round of loop 1, path TFTfF
            refine GE.round (i + 1) ⟨by omega, fun j h h' => ?_⟩ (by omega) Wkp Wsb
            by_cases e : j = i
            · subst e; exact .inr ⟨.inl h3, h4, readsOkB_iff.1 h5⟩
            · exact hok j (by omega) h'
      · -- TFF
        refine GC.region ?_
        refine GL.v Weq ?_
        refine GL.v Wag ?_
        refine GL.nil ?_
        refine GE.seq ?_
        refine GC.ifs (fun h4 => ?_) (fun h4 => ?_)
        · -- TFFT
          refine GC.seq ?_
          refine GC.region ?_
          refine GL.v Wfa ?_
          refine GL.v Wlb1 ?_
          refine GL.callF rfl rfl (validFormula_spec _ _ _ _ _ Wrd Wom) ?_
          refine GL.v Wnt ?_
          refine GL.v Wmv ?_
          refine GL.gs (fun h5 => ?_) (fun h5 => ?_)
          · -- TFFTt
            rw [validF_not] at h5
            refine GL.unwant rfl rfl rfl rfl ?_
            refine GL.unwant rfl rfl rfl rfl ?_
            refine GL.unwant rfl rfl rfl rfl ?_
            refine GL.unwant rfl rfl rfl rfl ?_
            refine GL.v Wpt ?_
            refine GL.nil ?_
            refine GE.seq ?_
            refine GC.cond_true rfl ?_
            refine GC.seq ?_
            refine GC.region ?_
            refine GL.v Wag ?_
            refine GL.nil ?_
            refine GE.seq ?_
            refine GC.ret ?_
            refine GE.block_ret ?_
            refine GE.block_ret ?_
            refine GE.seq_ret ?_
            refine GE.loop_ret ?_
            refine GE.block_ret ?_
            refine GE.seq_ret ?_
            -- returns, path TFFTt
            refine GE.ret_tmp (L' := L) (.inl rfl) rfl rfl Wsb ?_
            exact ⟨by rw [bad_node hil (by omega) (fun h => h5 h.1)], rfl⟩
          · -- TFFTf
            rw [validF_iff] at h5
            refine GL.want rfl rfl ?_
            refine GL.v Wlba ?_
            refine GL.want rfl rfl ?_
            refine GL.v Wmv ?_
            refine GL.want rfl rfl ?_
            refine GL.callF rfl rfl (goodReads_spec _ _ _ _ _ (RdG.imp (by assumption) Wim) _ Wom Wom) ?_
            refine GL.want rfl rfl ?_
            refine GL.v Wnt ?_
            refine GL.v Wpf ?_
            refine GL.nil ?_
            refine GE.seq ?_
            refine GC.ifs (fun h6 => ?_) (fun h6 => ?_)
            · -- TFFTfT
              refine GC.seq ?_
              refine GC.region ?_
              refine GL.v Wag ?_
              refine GL.nil ?_
              refine GE.seq ?_
              refine GC.ret ?_
              refine GE.block_ret ?_
              refine GE.block_ret ?_
              refine GE.seq_ret ?_
              refine GE.loop_ret ?_
              refine GE.block_ret ?_
              refine GE.seq_ret ?_
              -- returns, path TFFTfT
              refine GE.ret_tmp (L' := L) (.inl rfl) rfl rfl Wsb ?_
              exact ⟨by rw [bad_node hil (by omega) (fun h => readsOkB_not.1 h6 h.2)], rfl⟩
            · -- TFFTfF
              refine GC.skip ?_
              refine GE.block ?_
              refine GE.block ?_
              refine GE.seq ?_
              refine GC.region ?_
              refine GL.v Wmv ?_
              refine GL.v Wad ?_
              refine GL.v Wag ?_
              refine GL.nil ?_
              -- round of loop 1, path TFFTfF
              refine GE.round (i + 1) ⟨by omega, fun j h h' => ?_⟩ (by omega) Wkp Wsb
              by_cases e : j = i
              · subst e; exact .inr ⟨.inr h4, h5, readsOkB_iff.1 h6⟩
              · exact hok j (by omega) h'
        · -- TFFF
          refine GC.seq ?_
          refine GC.region ?_
          refine GL.v Wag ?_
          refine GL.nil ?_
          refine GE.seq ?_
          refine GC.ret ?_
          refine GE.block_ret ?_
          refine GE.block_ret ?_
          refine GE.seq_ret ?_
          refine GE.loop_ret ?_
          refine GE.block_ret ?_
          refine GE.seq_ret ?_
          -- returns, path TFFF
          refine GE.ret_tmp (L' := L) (.inl rfl) rfl rfl Wsb ?_
          exact ⟨by rw [bad_kind hil h2 h3 h4], rfl⟩
  · -- F
    refine GC.exit ?_
    refine GE.seq_exit ?_
    refine GE.loop_exit ?_
    refine GE.block_exit ?_
    refine GE.seq ?_
    refine GC.seq ?_
    refine GC.region ?_
    refine GL.v Wfa ?_
    refine GL.v Wlb ?_
    refine GL.v Wln ?_
    refine GL.v Wlq ?_
    refine GL.v Wag ?_
    refine GL.nil ?_
    refine GE.seq ?_
    refine GC.ret ?_
    -- returns, path F
    refine GE.ret_tmp (L' := L) (.inl rfl) rfl rfl Wsb ?_
    exact ⟨by rw [all_good (fun j h => hok j (by omega) h)], rfl⟩
theorem iValidGraph_spec (w0 : World) (L : List Asn) (A : Option Addr) (c : Nat) (ms : List NdM) (hG : RdG w0 L A c ms) (hl : ms.length ≤ 1100000) :
    Tr Try.prog 51 #[.agg #[.slice A ms.length c]] w0 L (fun v L' => v = .bool (validG (gr ms)) ∧ L' = L) := by
  have hN := hG.nodes
  refine Tr.enter (args := [.agg #[.slice A ms.length c]]) Try.func51 Try.ntmps51 rfl rfl ?_
  refine GC.seq ?_
  refine GC.region ?_
  refine GL.box_agg rfl rfl ?_; intro g1
  refine GL.v Wag ?_
  refine GL.nil ?_
  refine GE.seq ?_
  refine GC.seq ?_
  refine GC.seq ?_
  refine GC.region ?_
  refine GL.v Wfa ?_
  refine GL.v Wlb ?_
  refine GL.v Wln ?_
  refine GL.v Wmv ?_
  refine GL.nil ?_
  refine GE.seq ?_
  refine GC.block ?_
  -- loop 1: carried slots [10]
  refine GC.loopK (α := Nat) (fun i => i ≤ ms.length ∧ ∀ j (h : j < i) (h' : j < ms.length), GoodNd (gr ms) j ms[j].nd) (fun i => [(10, .int .i64 i)]) [(1, _), (8, _), (9, _)] (fun i => blk g1 25 [.slice A ms.length c] :: L) (fun i => ms.length - i) 0 Wkp Wsb ⟨Nat.zero_le _, fun _ h => by omega⟩ ?_
  rintro i ⟨hi, hok⟩
  refine GC.seq ?_
  refine GC.region ?_
  refine GL.v Wls ?_
  refine GL.nil ?_
  refine GE.seq ?_
  refine GC.seq ?_
  refine GC.ifs (fun h1 => ?_) (fun h1 => ?_)
  · -- T
    have hil : i < ms.length := by omega
    have hP := hG.parts i hil
    refine GC.skip ?_
    refine GE.seq ?_
    refine GC.seq ?_
    refine GC.block ?_
    refine GC.seq ?_
    refine GC.region ?_
    refine GL.v Wmv ?_
    refine GL.v Wix ?_
    refine GL.v Wle ?_
    refine GL.alloc rfl ?_; intro g4
    refine GL.v Wag ?_
    refine GL.store_varN rfl rfl rfl Wpk (by rfl) (by rfl) (by rfl) ?_
    refine GL.nil ?_
    refine GE.seq ?_
    refine GC.seq ?_
    refine GC.region ?_
    refine GL.v Wfa ?_
    refine GL.v Wlb ?_
    refine GL.nil ?_
    refine GE.seq ?_
    refine GC.block ?_
    refine GC.seq ?_
    refine GC.region ?_
    refine GL.v Weq ?_
    refine GL.v Wag ?_
    refine GL.nil ?_
    refine GE.seq ?_
    refine GC.ifs (fun h2 => ?_) (fun h2 => ?_)
    · -- TT
      refine GC.seq ?_
      refine GC.region ?_
      refine GL.v Wfa ?_
      refine GL.v Wfa ?_
      refine GL.v Wlb ?_
      refine GL.v Wln ?_
      refine GL.v Wgt ?_
      refine GL.nil ?_
      refine GE.seq ?_
      refine GC.ifs (fun h3 => ?_) (fun h3 => ?_)
      · -- TTT
        refine GC.seq ?_
        refine GC.region ?_
        refine GL.v Wag ?_
        refine GL.nil ?_
        refine GE.seq ?_
        refine GC.ret ?_
        refine GE.block_ret ?_
        refine GE.block_ret ?_
        refine GE.seq_ret ?_
        refine GE.loop_ret ?_
        refine GE.block_ret ?_
        refine GE.seq_ret ?_
        -- returns, path TTT
        refine GE.ret_tmp (L' := L) (.inl rfl) rfl rfl Wsb ?_
        exact ⟨by rw [bad_cell hil h2 (by omega)], rfl⟩
      · -- TTF
        refine GC.skip ?_
        refine GE.block ?_
        refine GE.block ?_
        refine GE.seq ?_
        refine GC.region ?_
        refine GL.v Wad ?_
        refine GL.v Wmv ?_
        refine GL.nil ?_
        -- round of loop 1, path TTF
        refine GE.round (i + 1) ⟨by omega, fun j h h' => ?_⟩ (by omega) Wkp Wsb
        by_cases e : j = i
        · subst e; exact .inl ⟨h2, List.length_eq_zero_iff.1 (by simp only [NdM.nd]; omega)⟩
        · exact hok j (by omega) h'
    · -- TF
      refine GC.seq ?_
      refine GC.seq ?_
      refine GC.region ?_
      refine GL.v Weq ?_
      refine GL.v Wag ?_
      refine GL.nil ?_
      refine GE.seq ?_
      refine GC.ifs (fun h3 => ?_) (fun h3 => ?_)
      · -- TFT
        refine GC.skip ?_
        refine GE.seq ?_
        refine GC.cond_true rfl ?_
        refine GC.seq ?_
        refine GC.seq ?_
        refine GC.region ?_
        refine GL.v Wfa ?_
        refine GL.v Wlb1 ?_
        refine GL.callF rfl rfl (ValidFormula_spec _ _ _ _ _ Wrd) ?_
        refine GL.v Wnt ?_
        refine GL.nil ?_
        refine GE.seq ?_
        refine GC.ifs (fun h4 => ?_) (fun h4 => ?_)
        · -- TFTT
          refine GC.seq ?_
          refine GC.region ?_
          refine GL.v Wag ?_
          refine GL.nil ?_
          refine GE.seq ?_
          refine GC.ret ?_
          refine GE.seq_ret ?_
          refine GE.block_ret ?_
          refine GE.block_ret ?_
          refine GE.seq_ret ?_
          refine GE.loop_ret ?_
          refine GE.block_ret ?_
          refine GE.seq_ret ?_
          -- returns, path TFTT
          refine GE.ret_tmp (L' := L) (.inl rfl) rfl rfl Wsb ?_
          exact ⟨by rw [bad_node hil (by omega) (fun h => validF_not.1 h4 h.1)], rfl⟩
        · -- TFTF
          rw [validF_iff] at h4
          have hf := h4.fit
          have hl12 := h4.2.1
          have hml := mayL_length ms[i].parts
          refine GC.skip ?_
          refine GE.seq ?_
          refine GC.seq ?_
          refine GC.region ?_
          refine GL.v Wfa ?_
          refine GL.v Wlb1 ?_
          refine GL.call rfl rfl (mayRead_spec _ _ _ _ _ Wrd Wom (by assumption)) ?_
          rintro _ _ ⟨B33, rfl, rfl⟩
          refine GL.v Wln ?_
          refine GL.v Wmv ?_
          refine GL.nil ?_
          refine GE.seq ?_
          refine GC.block ?_
          -- loop 2: carried slots [35]
          refine GC.loopK (α := Nat) (fun k => k ≤ (mayL ms[i].parts).length ∧ ∀ k' (h : k' < k) (h' : k' < (mayL ms[i].parts).length), (mayL ms[i].parts)[k'] < i ∧ kindAt (gr ms) (mayL ms[i].parts)[k'] ≠ 2) (fun k => [(35, .int .i64 k)]) [(1, _), (3, _), (8, _), (9, _), (10, _), (33, _), (34, _)] (fun k => row intE B33 (mayL ms[i].parts).length (mayL ms[i].parts) :: blk g1 25 [.slice A ms.length c] :: L) (fun k => (mayL ms[i].parts).length - k) 0 Wkp Wsb ⟨Nat.zero_le _, fun _ h => by omega⟩ ?_
          rintro k ⟨hk, hokk⟩
          refine GC.seq ?_
          refine GC.region ?_
          refine GL.v Wls ?_
          refine GL.nil ?_
          refine GE.seq ?_
          refine GC.seq ?_
          refine GC.ifs (fun h5 => ?_) (fun h5 => ?_)
          · -- TFTFT
            have hkl : k < (mayL ms[i].parts).length := by omega
            have hk0 := (mem_mayL.1 (List.getElem_mem hkl)).1
            refine GC.skip ?_
            refine GE.seq ?_
            refine GC.seq ?_
            refine GC.block ?_
            refine GC.seq ?_
            refine GC.region ?_
            refine GL.v Wix ?_
            refine GL.v Wle ?_
            refine GL.v Wag ?_
            refine GL.nil ?_
            refine GE.seq ?_
            refine GC.seq ?_
            refine GC.region ?_
            refine GL.v Wmv ?_
            refine GL.v Wmv ?_
            refine GL.v Wgq ?_
            refine GL.v Wmv ?_
            refine GL.gs (fun h6 => ?_) (fun h6 => ?_)
            · -- TFTFTt
              refine GL.unwant rfl rfl rfl rfl ?_
              refine GL.unwant rfl rfl rfl rfl ?_
              refine GL.unwant rfl rfl rfl rfl ?_
              refine GL.unwant rfl rfl rfl rfl ?_
              refine GL.unwant rfl rfl rfl rfl ?_
              refine GL.unwant rfl rfl rfl rfl ?_
              refine GL.unwant rfl rfl rfl rfl ?_
              refine GL.v Wpt ?_
              refine GL.nil ?_
              refine GE.seq ?_
              refine GC.cond_true rfl ?_
              refine GC.seq ?_
              refine GC.region ?_
              refine GL.v Wag ?_
              refine GL.nil ?_
              refine GE.seq ?_
              refine GC.ret ?_
              refine GE.block_ret ?_
              refine GE.seq_ret ?_
              refine GE.loop_ret ?_
              refine GE.block_ret ?_
              refine GE.block_ret ?_
              refine GE.block_ret ?_
              refine GE.seq_ret ?_
              refine GE.loop_ret ?_
              refine GE.block_ret ?_
              refine GE.seq_ret ?_
              -- returns, path TFTFTt
              refine GE.ret_tmp (L' := L) (.inl rfl) rfl rfl Wsb ?_
              exact ⟨by rw [bad_node hil (by omega) (fun h => by have := (h.2 _ (List.getElem_mem hkl)).1; omega)], rfl⟩
            · -- TFTFTf
              refine GL.want rfl rfl ?_
              refine GL.v Wfa ?_
              refine GL.want rfl rfl ?_
              refine GL.v Wlb ?_
              refine GL.want rfl rfl ?_
              refine GL.v Wmv ?_
              refine GL.want rfl rfl ?_
              refine GL.v Wix ?_
              refine GL.want rfl rfl ?_
              refine GL.v Wfa ?_
              refine GL.want rfl rfl ?_
              refine GL.v Wlef ?_
              refine GL.want rfl rfl ?_
              refine GL.v Weq ?_
              refine GL.v Wpf ?_
              refine GL.nil ?_
              refine GE.seq ?_
              refine GC.ifs (fun h7 => ?_) (fun h7 => ?_)
              · -- TFTFTfT
                refine GC.seq ?_
                refine GC.region ?_
                refine GL.v Wag ?_
                refine GL.nil ?_
                refine GE.seq ?_
                refine GC.ret ?_
                refine GE.block_ret ?_
                refine GE.seq_ret ?_
                refine GE.loop_ret ?_
                refine GE.block_ret ?_
                refine GE.block_ret ?_
                refine GE.block_ret ?_
                refine GE.seq_ret ?_
                refine GE.loop_ret ?_
                refine GE.block_ret ?_
                refine GE.seq_ret ?_
                -- returns, path TFTFTfT
                refine GE.ret_tmp (L' := L) (.inl rfl) rfl rfl Wsb ?_
                exact ⟨by rw [bad_node hil (by omega) (fun h => (h.2 _ (List.getElem_mem hkl)).2 (by rw [kindAt_gr (by omega)]; exact h7))], rfl⟩
              · -- TFTFTfF
                refine GC.skip ?_
                refine GE.block ?_
                refine GE.seq ?_
                refine GC.region ?_
                refine GL.v Wad ?_
                refine GL.v Wmv ?_
                refine GL.nil ?_
                -- round of loop 2, path TFTFTfF
                refine GE.round (k + 1) ⟨by omega, fun k' h h' => ?_⟩ (by omega) Wkp Wsb
                by_cases e : k' = k
                · subst e; exact ⟨by omega, by rw [kindAt_gr (by omega)]; exact h7⟩
                · exact hokk k' (by omega) h'
          · -- TFTFF
            refine GC.exit ?_
            refine GE.seq_exit ?_
            refine GE.loop_exit ?_
            refine GE.block_exit ?_
            refine GE.block ?_
            refine GE.block ?_
            refine GE.seq ?_
            refine GC.region ?_
            refine GL.v Wad ?_
            refine GL.v Wmv ?_
            refine GL.nil ?_
            -- round of loop 1, path TFTFF
            refine GE.round (i + 1) ⟨by omega, fun j h h' => ?_⟩ (by omega) Wkp Wsb
            by_cases e : j = i
            · subst e; exact .inr ⟨.inl h3, h4, fun n hn => by obtain ⟨k', h', rfl⟩ := List.mem_iff_getElem.1 hn; exact hokk k' (by simp only [NdM.nd] at h'; omega) h'⟩
            · exact hok j (by omega) h'
      · -- TFF
        refine GC.region ?_
        refine GL.v Weq ?_
        refine GL.v Wag ?_
        refine GL.nil ?_
        refine GE.seq ?_
        refine GC.ifs (fun h4 => ?_) (fun h4 => ?_)
        · -- TFFT
          refine GC.seq ?_
          refine GC.seq ?_
          refine GC.region ?_
          refine GL.v Wfa ?_
          refine GL.v Wlb1 ?_
          refine GL.callF rfl rfl (ValidFormula_spec _ _ _ _ _ Wrd) ?_
          refine GL.v Wnt ?_
          refine GL.nil ?_
          refine GE.seq ?_
          refine GC.ifs (fun h5 => ?_) (fun h5 => ?_)
          · -- TFFTT
            refine GC.seq ?_
            refine GC.region ?_
            refine GL.v Wag ?_
            refine GL.nil ?_
            refine GE.seq ?_
            refine GC.ret ?_
            refine GE.seq_ret ?_
            refine GE.block_ret ?_
            refine GE.block_ret ?_
            refine GE.seq_ret ?_
            refine GE.loop_ret ?_
            refine GE.block_ret ?_
            refine GE.seq_ret ?_
            -- returns, path TFFTT
            refine GE.ret_tmp (L' := L) (.inl rfl) rfl rfl Wsb ?_
            exact ⟨by rw [bad_node hil (by omega) (fun h => validF_not.1 h5 h.1)], rfl⟩
          · -- TFFTF
            rw [validF_iff] at h5
            have hf := h5.fit
            have hl12 := h5.2.1
            have hml := mayL_length ms[i].parts
            refine GC.skip ?_
            refine GE.seq ?_
            refine GC.seq ?_
            refine GC.region ?_
            refine GL.v Wfa ?_
            refine GL.v Wlb1 ?_
            refine GL.call rfl rfl (mayRead_spec _ _ _ _ _ Wrd Wom (by assumption)) ?_
            rintro _ _ ⟨B33, rfl, rfl⟩
            refine GL.v Wln ?_
            refine GL.v Wmv ?_
            refine GL.nil ?_
            refine GE.seq ?_
            refine GC.block ?_
            -- loop 2: carried slots [35]
            refine GC.loopK (α := Nat) (fun k => k ≤ (mayL ms[i].parts).length ∧ ∀ k' (h : k' < k) (h' : k' < (mayL ms[i].parts).length), (mayL ms[i].parts)[k'] < i ∧ kindAt (gr ms) (mayL ms[i].parts)[k'] ≠ 2) (fun k => [(35, .int .i64 k)]) [(1, _), (3, _), (8, _), (9, _), (10, _), (33, _), (34, _)] (fun k => row intE B33 (mayL ms[i].parts).length (mayL ms[i].parts) :: blk g1 25 [.slice A ms.length c] :: L) (fun k => (mayL ms[i].parts).length - k) 0 Wkp Wsb ⟨Nat.zero_le _, fun _ h => by omega⟩ ?_
            rintro k ⟨hk, hokk⟩
            refine GC.seq ?_
            refine GC.region ?_
            refine GL.v Wls ?_
            refine GL.nil ?_
            refine GE.seq ?_
            refine GC.seq ?_
            refine GC.ifs (fun h6 => ?_) (fun h6 => ?_)
            · -- TFFTFT
              have hkl : k < (mayL ms[i].parts).length := by omega
              have hk0 := (mem_mayL.1 (List.getElem_mem hkl)).1
              refine GC.skip ?_
              refine GE.seq ?_
              refine GC.seq ?_
              refine GC.block ?_
              refine GC.seq ?_
              refine GC.region ?_
              refine GL.v Wix ?_
              refine GL.v Wle ?_
              refine GL.v Wag ?_
              refine GL.nil ?_
              refine GE.seq ?_
              refine GC.seq ?_
              refine GC.region ?_
              refine GL.v Wmv ?_
              refine GL.v Wmv ?_
              refine GL.v Wgq ?_
              refine GL.v Wmv ?_
              refine GL.gs (fun h7 => ?_) (fun h7 => ?_)
              · -- TFFTFTt
                refine GL.unwant rfl rfl rfl rfl ?_
                refine GL.unwant rfl rfl rfl rfl ?_
                refine GL.unwant rfl rfl rfl rfl ?_
                refine GL.unwant rfl rfl rfl rfl ?_
                refine GL.unwant rfl rfl rfl rfl ?_
                refine GL.unwant rfl rfl rfl rfl ?_
                refine GL.unwant rfl rfl rfl rfl ?_
                refine GL.v Wpt ?_
                refine GL.nil ?_
                refine GE.seq ?_
                refine GC.cond_true rfl ?_
                refine GC.seq ?_
                refine GC.region ?_
                refine GL.v Wag ?_
                refine GL.nil ?_
                refine GE.seq ?_
                refine GC.ret ?_
                refine GE.block_ret ?_
                refine GE.seq_ret ?_
                refine GE.loop_ret ?_
                refine GE.block_ret ?_
                refine GE.block_ret ?_
                refine GE.block_ret ?_
                refine GE.seq_ret ?_
                refine GE.loop_ret ?_
                refine GE.block_ret ?_
                refine GE.seq_ret ?_
                -- returns, path TFFTFTt
                refine GE.ret_tmp (L' := L) (.inl rfl) rfl rfl Wsb ?_
                exact ⟨by rw [bad_node hil (by omega) (fun h => by have := (h.2 _ (List.getElem_mem hkl)).1; omega)], rfl⟩
              · -- TFFTFTf
                refine GL.want rfl rfl ?_
                refine GL.v Wfa ?_
                refine GL.want rfl rfl ?_
                refine GL.v Wlb ?_
                refine GL.want rfl rfl ?_
                refine GL.v Wmv ?_
                refine GL.want rfl rfl ?_
                refine GL.v Wix ?_
                refine GL.want rfl rfl ?_
                refine GL.v Wfa ?_
                refine GL.want rfl rfl ?_
                refine GL.v Wlef ?_
                refine GL.want rfl rfl ?_
                refine GL.v Weq ?_
                refine GL.v Wpf ?_
                refine GL.nil ?_
                refine GE.seq ?_
                refine GC.ifs (fun h8 => ?_) (fun h8 => ?_)
                · -- TFFTFTfT
                  refine GC.seq ?_
                  refine GC.region ?_
                  refine GL.v Wag ?_
                  refine GL.nil ?_
                  refine GE.seq ?_
                  refine GC.ret ?_
                  refine GE.block_ret ?_
                  refine GE.seq_ret ?_
                  refine GE.loop_ret ?_
                  refine GE.block_ret ?_
                  refine GE.block_ret ?_
                  refine GE.block_ret ?_
                  refine GE.seq_ret ?_
                  refine GE.loop_ret ?_
                  refine GE.block_ret ?_
                  refine GE.seq_ret ?_
                  -- returns, path TFFTFTfT
                  refine GE.ret_tmp (L' := L) (.inl rfl) rfl rfl Wsb ?_
                  exact ⟨by rw [bad_node hil (by omega) (fun h => (h.2 _ (List.getElem_mem hkl)).2 (by rw [kindAt_gr (by omega)]; exact h8))], rfl⟩
                · -- TFFTFTfF
                  refine GC.skip ?_
                  refine GE.block ?_
                  refine GE.seq ?_
                  refine GC.region ?_
                  refine GL.v Wad ?_
                  refine GL.v Wmv ?_
                  refine GL.nil ?_
                  -- round of loop 2, path TFFTFTfF
                  refine GE.round (k + 1) ⟨by omega, fun k' h h' => ?_⟩ (by omega) Wkp Wsb
                  by_cases e : k' = k
                  · subst e; exact ⟨by omega, by rw [kindAt_gr (by omega)]; exact h8⟩
                  · exact hokk k' (by omega) h'
            · -- TFFTFF
              refine GC.exit ?_
              refine GE.seq_exit ?_
              refine GE.loop_exit ?_
              refine GE.block_exit ?_
              refine GE.block ?_
              refine GE.block ?_
              refine GE.seq ?_
              refine GC.region ?_
              refine GL.v Wad ?_
              refine GL.v Wmv ?_
              refine GL.nil ?_
              -- round of loop 1, path TFFTFF
              refine GE.round (i + 1) ⟨by omega, fun j h h' => ?_⟩ (by omega) Wkp Wsb
              by_cases e : j = i
              · subst e; exact .inr ⟨.inr h4, h5, fun n hn => by obtain ⟨k', h', rfl⟩ := List.mem_iff_getElem.1 hn; exact hokk k' (by simp only [NdM.nd] at h'; omega) h'⟩
              · exact hok j (by omega) h'
        · -- TFFF
          refine GC.seq ?_
          refine GC.region ?_
          refine GL.v Wag ?_
          refine GL.nil ?_
          refine GE.seq ?_
          refine GC.ret ?_
          refine GE.block_ret ?_
          refine GE.block_ret ?_
          refine GE.seq_ret ?_
          refine GE.loop_ret ?_
          refine GE.block_ret ?_
          refine GE.seq_ret ?_
          -- returns, path TFFF
          refine GE.ret_tmp (L' := L) (.inl rfl) rfl rfl Wsb ?_
          exact ⟨by rw [bad_kind hil h2 h3 h4], rfl⟩
  · -- F
    refine GC.exit ?_
    refine GE.seq_exit ?_
    refine GE.loop_exit ?_
    refine GE.block_exit ?_
    refine GE.seq ?_
    refine GC.seq ?_
    refine GC.region ?_
    refine GL.v Wfa ?_
    refine GL.v Wlb ?_
    refine GL.v Wln ?_
    refine GL.v Wlq ?_
    refine GL.v Wag ?_
    refine GL.nil ?_
    refine GE.seq ?_
    refine GC.ret ?_
    -- returns, path F
    refine GE.ret_tmp (L' := L) (.inl rfl) rfl rfl Wsb ?_
    exact ⟨by rw [all_good (fun j h => hok j (by omega) h)], rfl⟩
end SG
