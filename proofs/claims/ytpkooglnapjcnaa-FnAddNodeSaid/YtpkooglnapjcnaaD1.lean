/- Contracts: the library's sort of short lists, Compact, Clip. -/
import Derived.Test.YtpkooglnapjcnaaOp5
import Derived.Test.YtpkooglnapjcnaaPlain2
namespace SG
open Go Go.RowKit Go.Proofs
set_option linter.unusedVariables false
set_option linter.unusedSimpArgs false
set_option maxRecDepth 100000

section
variable {Q : Exit → Act → World → Prop} {w0 : World} {N : Nat} {fs : List Kf} {ops : Array Oper} {rest : List Oper} {F : Env} {L L1 : List Asn} {ty : TypeId} {pos : String} {after : Array Edge} {x y : Operand}
theorem GL.store_part {t : TypeId} {agg : Bool} {zc : List Value} {A : Option Addr} {c k j : Nat} {xs : List Part} {n : Int} [hT : TyOk Try.prog t agg 1 zc] (hx : ev F x = some (.pointer (some ((elA A k partE.size).add j)))) (hy : ev F y = some (.int .i64 n))
    (pk : Pick L (row partE A c xs) L1) (hk : k < xs.length) (hj : Nat.blt j 5 = true) (h : GL Try.prog Q w0 N false fs ops rest F (row partE A c (xs.set k (Part.put xs[k] j n)) :: L1)) : GL Try.prog Q w0 N false fs ops (⟨none, .store t x y, ty, pos, after, none⟩ :: rest) F L := by
  have hj' : j < 5 := by simpa [Nat.blt_eq] using hj
  refine GL.store_el_cell (Part.put xs[k] j n) hx hy pk (u := .int .i64 n) rfl rfl hk hj' ?_ h
  match j, hj' with
  | 0, _ => rfl
  | 1, _ => rfl
  | 2, _ => rfl
  | 3, _ => rfl
  | 4, _ => rfl
end
theorem isNaN_spec (w0 : World) (L : List Asn) (n : Int) : Tr Try.prog 175 #[.int .i64 n] w0 L (fun v L' => v = .bool false ∧ L' = L) := by
  refine Tr.enter (args := [.int .i64 n]) Try.func175 Try.ntmps175 rfl rfl ?_
  refine GC.seq ?_
  refine GC.region ?_
  refine GL.v Wag ?_
  refine GL.nil ?_
  refine GE.seq ?_
  refine GC.seq ?_
  refine GC.region ?_
  refine GL.v Wmv ?_
  refine GL.v Wmv ?_
  refine GL.v Wnq ?_
  refine GL.v Wag ?_
  refine GL.nil ?_
  refine GE.seq ?_
  refine GC.ret ?_
  -- returns, path 
  refine GE.ret_tmp (L' := L) (.inl rfl) rfl rfl Wsb ?_
  exact ⟨by simp, rfl⟩
theorem Less_spec (w0 : World) (L : List Asn) (m n : Int) : Tr Try.prog 165 #[.int .i64 m, .int .i64 n] w0 L (fun v L' => v = .bool (decide (m < n)) ∧ L' = L) := by
  refine Tr.enter (args := [.int .i64 m, .int .i64 n]) Try.func165 Try.ntmps165 rfl rfl ?_
  refine GC.seq ?_
  refine GC.region ?_
  refine GL.v Wag ?_
  refine GL.nil ?_
  refine GE.seq ?_
  refine GC.seq ?_
  refine GC.region ?_
  refine GL.v Wmv ?_
  refine GL.callF rfl rfl (isNaN_spec _ _ _) ?_
  refine GL.v Wmv ?_
  refine GL.gs (fun h1 => ?_) (fun h1 => ?_)
  · -- t
    cases h1
  · -- f
    refine GL.unwant rfl rfl rfl rfl ?_
    refine GL.unwant rfl rfl rfl rfl ?_
    refine GL.unwant rfl rfl rfl rfl ?_
    refine GL.v Wpf ?_
    refine GL.v Wmv ?_
    refine GL.want rfl rfl ?_
    refine GL.v Wmv ?_
    refine GL.want rfl rfl ?_
    refine GL.v Wmv ?_
    refine GL.want rfl rfl ?_
    refine GL.v Wls ?_
    refine GL.v Wpf ?_
    refine GL.v Wag ?_
    refine GL.nil ?_
    refine GE.seq ?_
    refine GC.ret ?_
    -- returns, path f
    refine GE.ret_tmp (L' := L) (.inl rfl) rfl rfl Wsb ?_
    exact ⟨rfl, rfl⟩
theorem insertionSort_spec (w0 : World) (L : List Asn) (A : Option Addr) (c : Nat) (xs : List Int) (hl : xs.length ≤ 1000) :
    Tr Try.prog 159 #[.slice A xs.length c, .int .i64 0, .int .i64 xs.length] w0 (row intE A c xs :: L) (fun v L' => ∃ ys, SameM ys xs ∧ Upto ys.length ys ∧ v = .tuple #[] ∧ L' = row intE A c ys :: L) := by
  refine Tr.enter (args := [.slice A xs.length c, .int .i64 0, .int .i64 xs.length]) Try.func159 Try.ntmps159 rfl rfl ?_
  refine GC.seq ?_
  refine GC.region ?_
  refine GL.v Wmv ?_
  refine GL.v Wad ?_
  refine GL.v Wag ?_
  refine GL.nil ?_
  refine GE.seq ?_
  refine GC.block ?_
  -- loop 1: carried slots [6]
  refine GC.loopK (α := Nat × List Int) (fun x => 1 ≤ x.1 ∧ x.1 ≤ xs.length + 1 ∧ SameM x.2 xs ∧ Upto x.1 (x.2.take xs.length)) (fun x => [(6, .int .i64 x.1)]) [(0, _), (1, _), (2, _)] (fun x => row intE A c x.2 :: L) (fun x => xs.length + 1 - x.1) (1, xs) Wkp Wsb ⟨by dsimp only; omega, by dsimp only; omega, SameM.refl _, fun p q h1 h2 => by dsimp only at h2; omega⟩ ?_
  rintro ⟨i, ys⟩ ⟨hi1, hi2, hsame, hup⟩
  dsimp only at hi1 hi2 hsame hup ⊢
  have hyl := hsame.1
  rw [List.take_of_length_le (by omega)] at hup
  refine GC.seq ?_
  refine GC.seq ?_
  refine GC.region ?_
  refine GL.v Wmv ?_
  refine GL.v Wmv ?_
  refine GL.v Wls ?_
  refine GL.nil ?_
  refine GE.seq ?_
  refine GC.ifs (fun h1 => ?_) (fun h1 => ?_)
  · -- T
    have hil : i < ys.length := by omega
    refine GC.skip ?_
    refine GE.seq ?_
    refine GC.seq ?_
    refine GC.block ?_
    refine GC.seq ?_
    refine GC.region ?_
    refine GL.v Wmv ?_
    refine GL.v Wag ?_
    refine GL.nil ?_
    refine GE.seq ?_
    refine GC.block ?_
    -- loop 2: carried slots [7]
    refine GC.loopK (α := Nat × List Int) (fun x => x.1 ≤ i ∧ SameM x.2 xs ∧ Nearly i x.1 x.2) (fun x => [(7, .int .i64 x.1)]) [(0, _), (1, _), (2, _), (6, _)] (fun x => row intE A c x.2 :: L) (fun x => x.1) (i, ys) Wkp Wsb ⟨Nat.le_refl _, hsame, Nearly.start hup⟩ ?_
    rintro ⟨j, zs⟩ ⟨hj, hsame2, hn⟩
    dsimp only at hj hsame2 hn ⊢
    have hzl := hsame2.1
    refine GC.seq ?_
    refine GC.seq ?_
    refine GC.region_quiet mixed (by kernel_rfl) ?_
    refine GL.v Wmv ?_
    refine GL.v Wmv ?_
    refine GL.v Wgt ?_
    refine GL.v Wmv ?_
    refine GL.gs (fun h2 => ?_) (fun h2 => ?_)
    · -- Tt
      have hj0 : 0 < j := by omega
      have ej : ((j : Int) - 1).toNat = j - 1 := by omega
      refine GL.want rfl rfl ?_
      refine GL.v Wmv ?_
      refine GL.want rfl rfl ?_
      refine GL.v Wmv ?_
      refine GL.want rfl rfl ?_
      refine GL.v Wix ?_
      refine GL.want rfl rfl ?_
      refine GL.v Wle ?_
      refine GL.want rfl rfl ?_
      refine GL.v Wmv ?_
      refine GL.want rfl rfl ?_
      refine GL.v Wmv ?_
      refine GL.want rfl rfl ?_
      refine GL.v Wsu ?_
      refine GL.want rfl rfl ?_
      refine GL.v Wix ?_
      refine GL.want rfl rfl ?_
      refine GL.v Wle ?_
      refine GL.want rfl rfl ?_
      refine GL.callF rfl rfl (Less_spec _ _ _ _) ?_
      refine GL.v Wpt ?_
      refine GL.nil ?_
      refine GE.seq ?_
      refine GC.ifs (fun h3 => ?_) (fun h3 => ?_)
      · -- TtT
        refine GC.skip ?_
        refine GE.seq ?_
        refine GC.seq ?_
        refine GC.block ?_
        refine GC.region_any #[false, false, false, false, false, false, false, false, false, false, false, false, false, false, false, true, false, true] mixed ?_
        refine GA.take 0 #[false, true, true, true, true, true, true, true, true, true, true, true, true, true, false, false, false, false] rfl (by exact Ev.move rfl) rfl rfl (by kernel_rfl) rfl (by kernel_rfl) (by kernel_rfl) (fun _ _ _ h => h) ?_
        refine GA.take 1 #[true, false, true, true, true, true, true, true, true, true, true, true, true, true, false, false, false, false] rfl (by exact Ev.move rfl) rfl rfl (by kernel_rfl) rfl (by kernel_rfl) (by kernel_rfl) (fun _ _ _ h => h) ?_
        refine GA.take 2 #[true, true, false, true, true, true, true, true, true, true, true, true, true, true, true, true, false, false] rfl (by exact Ev.move rfl) rfl rfl (by kernel_rfl) rfl (by kernel_rfl) (by kernel_rfl) (fun _ _ _ h => h) ?_
        refine GA.take 3 #[true, true, true, false, false, true, true, true, true, true, true, true, true, true, true, true, false, false] rfl (by exact Ev.move rfl) rfl rfl (by kernel_rfl) rfl (by kernel_rfl) (by kernel_rfl) (fun _ _ _ h => h) ?_
        refine GA.take 4 #[true, true, true, true, false, true, true, true, true, true, true, true, true, true, true, true, false, false] rfl (by exact Ev.sub rfl rfl (by omega)) rfl rfl (by kernel_rfl) rfl (by kernel_rfl) (by kernel_rfl) (fun _ _ _ h => h) ?_
        refine GA.take 5 #[true, true, true, true, true, false, true, true, false, false, true, true, true, true, false, false, false, false] rfl (by exact Ev.move rfl) rfl rfl (by kernel_rfl) rfl (by kernel_rfl) (by kernel_rfl) (fun _ _ _ h => h) ?_
        refine GA.take 6 #[true, true, true, true, true, true, false, false, false, false, true, true, true, true, false, false, false, false] rfl (by exact Ev.move rfl) rfl rfl (by kernel_rfl) rfl (by kernel_rfl) (by kernel_rfl) (fun _ _ _ h => h) ?_
        refine GA.take 7 #[true, true, true, true, true, true, true, false, false, false, true, true, true, true, false, false, false, false] rfl (by exact Ev.sub rfl rfl (by omega)) rfl rfl (by kernel_rfl) rfl (by kernel_rfl) (by kernel_rfl) (fun _ _ _ h => h) ?_
        refine GA.read 8 #[true, true, true, true, true, true, true, true, false, false, true, true, true, true, false, false, false, false] rfl (by exact Wix) rfl rfl (by kernel_rfl) rfl (by kernel_rfl) (by kernel_rfl) (fun _ _ _ h => h) ?_
        refine GA.read 9 #[true, true, true, true, true, true, true, true, true, false, true, true, true, true, false, false, false, false] rfl (by exact Wle) rfl rfl (by kernel_rfl) rfl (by kernel_rfl) (by kernel_rfl) (fun _ _ _ h => h) ?_
        refine GA.take 10 #[true, true, true, true, true, true, true, true, true, true, false, true, false, false, false, false, false, false] rfl (by exact Ev.move rfl) rfl rfl (by kernel_rfl) rfl (by kernel_rfl) (by kernel_rfl) (fun _ _ _ h => h) ?_
        refine GA.take 11 #[true, true, true, true, true, true, true, true, true, true, true, false, false, false, false, false, false, false] rfl (by exact Ev.move rfl) rfl rfl (by kernel_rfl) rfl (by kernel_rfl) (by kernel_rfl) (fun _ _ _ h => h) ?_
        refine GA.read 12 #[true, true, true, true, true, true, true, true, true, true, true, true, false, false, false, false, false, false] rfl (by exact Wix) rfl rfl (by kernel_rfl) rfl (by kernel_rfl) (by kernel_rfl) (fun _ _ _ h => h) ?_
        refine GA.read 13 #[true, true, true, true, true, true, true, true, true, true, true, true, true, false, false, false, false, false] rfl (by exact Wle) rfl rfl (by kernel_rfl) rfl (by kernel_rfl) (by kernel_rfl) (fun _ _ _ h => h) ?_
        refine GA.read 14 #[true, true, true, true, true, true, true, true, true, true, true, true, true, true, false, false, false, false] rfl (by exact Wix) rfl rfl (by kernel_rfl) rfl (by kernel_rfl) (by kernel_rfl) (fun _ _ _ h => h) ?_
        refine GA.branch (rs := [15]) (JOk.live (by exact Wix) (JOk.live (by exact Wle) (JOk.live (by exact Wix) (JOk.live (by exact Wle) (JOk.live (by exact Wix) JOk.nil))))) (by kernel_rfl) (by simp) ?_
        refine GAs.cons rfl ?_ ?_
        · -- TtT op 15
          refine GL.store_el rfl rfl Wpk rfl rfl rfl (by first | omega | (simp; done) | (simp; omega)) ?_
          refine GL.nil ?_
          refine GE.any ?_
          refine GA.read 16 #[true, true, true, true, true, true, true, true, true, true, true, true, true, true, true, true, false, false] rfl (by exact Wix) rfl rfl (by kernel_rfl) rfl (by kernel_rfl) (by kernel_rfl) (fun _ _ _ h => h) ?_
          refine GA.branch (rs := [17]) (JOk.live (by exact Wix) (JOk.dead (by kernel_rfl) (JOk.dead (by kernel_rfl) (JOk.dead (by kernel_rfl) (JOk.dead (by kernel_rfl) (JOk.dead (by kernel_rfl) JOk.nil)))))) (by kernel_rfl) (by simp) ?_
          refine GAs.cons rfl ?_ ?_
          · -- TtT op 17
            refine GL.store_el rfl rfl Wpk rfl rfl rfl (by first | omega | (simp; done) | (simp; omega)) ?_
            refine GL.nil ?_
            refine GE.any ?_
            refine GA.done (JOk.dead (by kernel_rfl) (JOk.dead (by kernel_rfl) (JOk.dead (by kernel_rfl) (JOk.dead (by kernel_rfl) (JOk.dead (by kernel_rfl) (JOk.dead (by kernel_rfl) JOk.nil)))))) (by kernel_rfl) ?_
            refine GE.block ?_
            refine GE.seq ?_
            refine GC.region ?_
            refine GL.v Wmv ?_
            refine GL.v Wsu ?_
            refine GL.v Wag ?_
            refine GL.nil ?_
            -- round of loop 2, path TtT
            have e1 : ((j : Int) - 1) = ((j - 1 : Nat) : Int) := by omega
            simp only [e1, at0_eq, Int.toNat_natCast] at h3 ⊢
            refine GE.round (j - 1, (zs.set j (at0 zs (j - 1))).set (j - 1) (at0 zs j)) ⟨by dsimp only; omega, (SameM.swap (by omega) (by omega)).trans hsame2, hn.swap hj0 hj (by omega) h3⟩ (by dsimp only; omega) Wkp Wsb
          exact GAs.nil
        exact GAs.nil
      · -- TtF
        refine GC.exit ?_
        refine GE.seq_exit ?_
        refine GE.loop_exit ?_
        refine GE.block_exit ?_
        refine GE.block ?_
        refine GE.seq ?_
        refine GC.region ?_
        refine GL.v Wmv ?_
        refine GL.v Wad ?_
        refine GL.v Wag ?_
        refine GL.nil ?_
        -- round of loop 1, path TtF
        have e1 : ((j : Int) - 1) = ((j - 1 : Nat) : Int) := by omega
        simp only [e1, at0_eq, Int.toNat_natCast] at h3
        refine GE.round (i + 1, zs) ⟨by dsimp only; omega, by dsimp only; omega, hsame2, by dsimp only; rw [List.take_of_length_le (by omega)]; exact hn.stop hj0 hj h3⟩ (by dsimp only; omega) Wkp Wsb
    · -- Tf
      have hj0 : j = 0 := by omega
      refine GL.unwant rfl rfl rfl rfl ?_
      refine GL.unwant rfl rfl rfl rfl ?_
      refine GL.unwant rfl rfl rfl rfl ?_
      refine GL.unwant rfl rfl rfl rfl ?_
      refine GL.unwant rfl rfl rfl rfl ?_
      refine GL.unwant rfl rfl rfl rfl ?_
      refine GL.unwant rfl rfl rfl rfl ?_
      refine GL.unwant rfl rfl rfl rfl ?_
      refine GL.unwant rfl rfl rfl rfl ?_
      refine GL.unwant rfl rfl rfl rfl ?_
      refine GL.v Wpf ?_
      refine GL.nil ?_
      refine GE.seq ?_
      refine GC.cond_false rfl ?_
      refine GC.exit ?_
      refine GE.seq_exit ?_
      refine GE.loop_exit ?_
      refine GE.block_exit ?_
      refine GE.block ?_
      refine GE.seq ?_
      refine GC.region ?_
      refine GL.v Wmv ?_
      refine GL.v Wad ?_
      refine GL.v Wag ?_
      refine GL.nil ?_
      -- round of loop 1, path Tf
      subst hj0
      refine GE.round (i + 1, zs) ⟨by dsimp only; omega, by dsimp only; omega, hsame2, by dsimp only; rw [List.take_of_length_le (by omega)]; exact hn.stop0⟩ (by dsimp only; omega) Wkp Wsb
  · -- F
    refine GC.exit ?_
    refine GE.seq_exit ?_
    refine GE.loop_exit ?_
    refine GE.block_exit ?_
    -- returns, path F
    refine GE.ret_none (L' := row intE A c ys :: L) (.inr rfl) rfl Wsb ?_
    exact ⟨ys, hsame, fun p q h h' => hup p q h (by omega), rfl, rfl⟩
theorem pdqsort_spec (w0 : World) (L : List Asn) (A : Option Addr) (c : Nat) (xs : List Int) (hl : xs.length ≤ 12) (k : Int) :
    Tr Try.prog 152 #[.slice A xs.length c, .int .i64 0, .int .i64 xs.length, .int .i64 k] w0 (row intE A c xs :: L) (fun v L' => ∃ ys, SameM ys xs ∧ Upto ys.length ys ∧ v = .tuple #[] ∧ L' = row intE A c ys :: L) := by
  refine Tr.enter (args := [.slice A xs.length c, .int .i64 0, .int .i64 xs.length, .int .i64 k]) Try.func152 Try.ntmps152 rfl rfl ?_
  refine GC.seq ?_
  refine GC.region ?_
  refine GL.v Wag ?_
  refine GL.nil ?_
  refine GE.seq ?_
  refine GC.seq ?_
  refine GC.region ?_
  refine GL.v Wag ?_
  refine GL.nil ?_
  refine GE.seq ?_
  refine GC.block ?_
  -- loop 1: carried slots [1, 2, 3, 8, 9]
  refine GC.loopK (α := Unit) (fun _ => True) (fun _ => []) [(0, _), (1, _), (2, _)] (fun x => row intE A c xs :: L) (fun x => 0) () Wkp Wsb trivial ?_
  rintro ⟨⟩ _
  refine GC.block ?_
  refine GC.seq ?_
  refine GC.region ?_
  refine GL.v Wmv ?_
  refine GL.v Wmv ?_
  refine GL.v Wsu ?_
  refine GL.v Wag ?_
  refine GL.nil ?_
  refine GE.seq ?_
  refine GC.seq ?_
  refine GC.seq ?_
  refine GC.region ?_
  refine GL.v Wmv ?_
  refine GL.v Wlq ?_
  refine GL.nil ?_
  refine GE.seq ?_
  refine GC.ifs (fun h1 => ?_) (fun h1 => ?_)
  · -- T
    refine GC.seq ?_
    refine GC.region ?_
    refine GL.v Wmv ?_
    refine GL.v Wmv ?_
    refine GL.v Wmv ?_
    refine GL.call rfl rfl (insertionSort_spec _ _ _ _ _ (by omega)) ?_
    rintro _ _ ⟨ys, hys1, hys2, rfl, rfl⟩
    refine GL.nil ?_
    refine GE.seq ?_
    refine GC.ret ?_
    refine GE.seq_ret ?_
    refine GE.block_ret ?_
    refine GE.loop_ret ?_
    refine GE.block_ret ?_
    -- returns, path T
    refine GE.ret_none (L' := row intE A c ys :: L) (.inl rfl) rfl Wsb ?_
    exact ⟨ys, hys1, hys2, rfl, rfl⟩
  · -- F
    exfalso; omega
theorem Len64_spec (w0 : World) (L : List Asn) (n : Int) (n0 : 0 ≤ n) (n1 : n ≤ 255) : Tr Try.prog 169 #[.int .u64 n] w0 L (fun v L' => ∃ x : Int, v = .int .i64 x ∧ L' = L) := by
  refine Tr.enter (args := [.int .u64 n]) Try.func169 Try.ntmps169 rfl rfl ?_
  refine GC.seq ?_
  refine GC.region ?_
  refine GL.v Wag ?_
  refine GL.nil ?_
  refine GE.seq ?_
  refine GC.seq ?_
  refine GC.seq ?_
  refine GC.region ?_
  refine GL.v Wmv ?_
  refine GL.v (by exact EvP.r (Ev.geqK rfl rfl)) ?_
  refine GL.nil ?_
  refine GE.seq ?_
  refine GC.ifs (fun h1 => ?_) (fun h1 => ?_)
  · -- T
    exfalso; omega
  · -- F
    refine GC.skip ?_
    refine GE.seq ?_
    refine GC.seq ?_
    refine GC.seq ?_
    refine GC.region ?_
    refine GL.v Wmv ?_
    refine GL.v (by exact EvP.r (Ev.geqK rfl rfl)) ?_
    refine GL.nil ?_
    refine GE.seq ?_
    refine GC.ifs (fun h2 => ?_) (fun h2 => ?_)
    · -- FT
      exfalso; omega
    · -- FF
      refine GC.skip ?_
      refine GE.seq ?_
      refine GC.seq ?_
      refine GC.seq ?_
      refine GC.region ?_
      refine GL.v Wmv ?_
      refine GL.v (by exact EvP.r (Ev.geqK rfl rfl)) ?_
      refine GL.nil ?_
      refine GE.seq ?_
      refine GC.ifs (fun h3 => ?_) (fun h3 => ?_)
      · -- FFT
        exfalso; omega
      · -- FFF
        refine GC.skip ?_
        refine GE.seq ?_
        refine GC.seq ?_
        refine GC.region ?_
        refine GL.v Wmv ?_
        refine GL.v Wmv ?_
        refine GL.v (by exact EvP.r (Ev.conv rfl (IntWalk.u8_in _ ⟨by omega, by omega⟩))) ?_
        refine GL.v (by exact EvP.r (Ev.index_str rfl rfl Wik (Nat.lt_of_lt_of_le (m := 256) (by omega) (Nat.le_of_eq (by kernel_rfl))))) ?_
        generalize hb : UInt8.toNat _ = bb
        have hbb : bb ≤ 255 := by subst hb; exact Nat.le_of_lt_succ (UInt8.toNat_lt _)
        clear hb
        refine GL.v (by exact EvP.r (Ev.of_u8 rfl (by omega))) ?_
        refine GL.v Wad ?_
        refine GL.v Wag ?_
        refine GL.nil ?_
        refine GE.seq ?_
        refine GC.ret ?_
        -- returns, path FFF
        refine GE.ret_tmp (L' := L) (.inl rfl) rfl rfl Wsb ?_
        exact ⟨_, rfl, rfl⟩
theorem bitsLen_spec (w0 : World) (L : List Asn) (n : Int) (n0 : 0 ≤ n) (n1 : n ≤ 255) : Tr Try.prog 153 #[.int .u64 n] w0 L (fun v L' => ∃ x : Int, v = .int .i64 x ∧ L' = L) := by
  refine Tr.enter (args := [.int .u64 n]) Try.func153 Try.ntmps153 rfl rfl ?_
  refine GC.seq ?_
  refine GC.region ?_
  refine GL.v Wag ?_
  refine GL.nil ?_
  refine GE.seq ?_
  refine GC.seq ?_
  refine GC.cond_false rfl ?_
  refine GC.skip ?_
  refine GE.seq ?_
  refine GC.seq ?_
  refine GC.region ?_
  refine GL.v Wmv ?_
  refine GL.call rfl rfl (Len64_spec _ _ _ n0 n1) ?_
  rintro _ _ ⟨x, rfl, e⟩
  rw [e]
  refine GL.v Wag ?_
  refine GL.nil ?_
  refine GE.seq ?_
  refine GC.ret ?_
  -- returns, path 
  refine GE.ret_tmp (L' := L) (.inl rfl) rfl rfl Wsb ?_
  exact ⟨_, rfl, rfl⟩
theorem Sort_spec (w0 : World) (L : List Asn) (A : Option Addr) (c : Nat) (xs : List Int) (hl : xs.length ≤ 12) :
    Tr Try.prog 132 #[.slice A xs.length c] w0 (row intE A c xs :: L) (fun v L' => ∃ ys, SameM ys xs ∧ Upto ys.length ys ∧ v = .tuple #[] ∧ L' = row intE A c ys :: L) := by
  refine Tr.enter (args := [.slice A xs.length c]) Try.func132 Try.ntmps132 rfl rfl ?_
  refine GC.seq ?_
  refine GC.region ?_
  refine GL.v Wmv ?_
  refine GL.v Wln ?_
  refine GL.v Wag ?_
  refine GL.nil ?_
  refine GE.seq ?_
  refine GC.region ?_
  refine GL.v Wmv ?_
  refine GL.v Wmv ?_
  refine GL.v Wmv ?_
  refine GL.v (by exact EvP.r (Ev.conv rfl (IntWalk.u64_in _ ⟨by omega, by omega⟩))) ?_
  refine GL.call rfl rfl (bitsLen_spec _ _ _ (by omega) (by omega)) ?_
  rintro _ _ ⟨x, rfl, e⟩
  rw [e]
  refine GL.call rfl rfl (pdqsort_spec _ _ _ _ _ hl _) ?_
  rintro _ _ ⟨ys, hys1, hys2, rfl, rfl⟩
  refine GL.nil ?_
  -- returns, path 
  refine GE.ret_none (L' := row intE A c ys :: L) (.inr rfl) rfl Wsb ?_
  exact ⟨ys, hys1, hys2, rfl, rfl⟩
theorem ClipInt_spec (w0 : World) (L : List Asn) (A : Option Addr) (n c : Nat) (hn : n ≤ c) : Tr Try.prog 111 #[.slice A n c] w0 L (fun v L' => v = .slice A n n ∧ L' = L) := by
  refine Tr.enter (args := [.slice A n c]) Try.func111 Try.ntmps111 rfl rfl ?_
  refine GC.seq ?_
  refine GC.region ?_
  refine GL.v Wag ?_
  refine GL.nil ?_
  refine GE.seq ?_
  refine GC.seq ?_
  refine GC.region ?_
  refine GL.v Wmv ?_
  refine GL.v Wmv ?_
  refine GL.v Wln ?_
  refine GL.v Wmv ?_
  refine GL.v Wln ?_
  refine GL.v (by exact EvP.r (Ev.cut3 rfl rfl rfl Wik Wik (by omega) (by omega))) ?_
  refine GL.v Wag ?_
  refine GL.nil ?_
  refine GE.seq ?_
  refine GC.ret ?_
  -- returns, path 
  refine GE.ret_tmp (L' := L) (.inl rfl) rfl rfl Wsb ?_
  exact ⟨rfl, rfl⟩
/-- the different ones of a sorted row -/
theorem Compact_spec (w0 : World) (L : List Asn) (A : Option Addr) (c : Nat) (xs : List Int) (hl : xs.length ≤ 1000) (hs : Upto xs.length xs) :
    Tr Try.prog 133 #[.slice A xs.length c] w0 (row intE A c xs :: L) (fun v L' => ∃ ys, Asc ys ∧ (∀ x, x ∈ ys ↔ x ∈ xs) ∧ ys.length ≤ xs.length ∧ v = .slice A ys.length c ∧ L' = row intE A c ys :: L) := by
  refine Tr.enter (args := [.slice A xs.length c]) Try.func133 Try.ntmps133 rfl rfl ?_
  refine GC.seq ?_
  refine GC.region ?_
  refine GL.v Wag ?_
  refine GL.nil ?_
  refine GE.seq ?_
  refine GC.seq ?_
  refine GC.seq ?_
  refine GC.region ?_
  refine GL.v Wmv ?_
  refine GL.v Wln ?_
  refine GL.v Wls ?_
  refine GL.nil ?_
  refine GE.seq ?_
  refine GC.ifs (fun h1 => ?_) (fun h1 => ?_)
  · -- T
    refine GC.seq ?_
    refine GC.region ?_
    refine GL.v Wmv ?_
    refine GL.v Wag ?_
    refine GL.nil ?_
    refine GE.seq ?_
    refine GC.ret ?_
    refine GE.seq_ret ?_
    -- returns, path T
    refine GE.ret_tmp (L' := row intE A c xs :: L) (.inl rfl) rfl rfl Wsb ?_
    refine ⟨xs, ?_, fun _ => Iff.rfl, Nat.le_refl _, rfl, rfl⟩
    have := (Comp.start (xs := xs) (k := xs.length) (fun i h h' => by omega) hs (Nat.le_refl _)).2.2.1
    rwa [List.take_length] at this
  · -- F
    refine GC.row_cap (by exact Pick.head) fun hc1 hc2 => ?_
    refine GC.skip ?_
    refine GE.seq ?_
    refine GC.seq ?_
    refine GC.seq ?_
    refine GC.region ?_
    refine GL.v Wag ?_
    refine GL.nil ?_
    refine GE.seq ?_
    refine GC.block ?_
    -- loop 1: carried slots [3]
    refine GC.loopK (α := Nat) (fun x => 1 ≤ x ∧ x ≤ xs.length ∧ ∀ i, 0 < i → i < x → at0 xs i ≠ at0 xs (i - 1)) (fun x => [(3, .int .i64 x)]) [(0, _)] (fun x => row intE A c xs :: L) (fun x => xs.length - x) 1 Wkp Wsb ⟨by omega, by omega, fun i h h' => by omega⟩ ?_
    rintro k ⟨hk1, hk2, hne⟩
    refine GC.seq ?_
    refine GC.seq ?_
    refine GC.region ?_
    refine GL.v Wmv ?_
    refine GL.v Wmv ?_
    refine GL.v Wln ?_
    refine GL.v Wls ?_
    refine GL.nil ?_
    refine GE.seq ?_
    refine GC.ifs (fun h2 => ?_) (fun h2 => ?_)
    · -- FT
      have hkl : k < xs.length := by omega
      have e1 : ((k : Int) - 1).toNat = k - 1 := by omega
      refine GC.skip ?_
      refine GE.seq ?_
      refine GC.seq ?_
      refine GC.block ?_
      refine GC.seq ?_
      refine GC.region_quiet mixed (by kernel_rfl) ?_
      refine GL.v Wmv ?_
      refine GL.v Wmv ?_
      refine GL.v Wix ?_
      refine GL.v Wle ?_
      refine GL.v Wmv ?_
      refine GL.v Wmv ?_
      refine GL.v Wsu ?_
      refine GL.v Wix ?_
      refine GL.v Wle ?_
      refine GL.v Weq ?_
      refine GL.nil ?_
      refine GE.seq ?_
      refine GC.ifs (fun h3 => ?_) (fun h3 => ?_)
      · -- FTT
        rw [at0_eq, at0_eq, e1] at h3
        refine GC.seq ?_
        refine GC.region ?_
        refine GL.v Wmv ?_
        refine GL.v Wmv ?_
        refine GL.v (by exact EvP.r (Ev.cut_from rfl rfl Wik (by omega))) ?_
        refine GL.v Wag ?_
        refine GL.nil ?_
        refine GE.seq ?_
        refine GC.seq ?_
        refine GC.seq ?_
        refine GC.region ?_
        refine GL.v Wag ?_
        refine GL.nil ?_
        refine GE.seq ?_
        refine GC.block ?_
        -- loop 2: carried slots [3, 5]
        refine GC.loopK (α := Nat × Nat × List Int) (fun x => x.1 ≤ k + x.2.1 - 1 ∧ 1 ≤ x.2.1 ∧ k + x.2.1 ≤ xs.length ∧ k ≤ x.1 ∧ Comp xs x.2.2 x.1 (k + x.2.1)) (fun x => [(3, .int .i64 x.1), (5, .int .i64 x.2.1)]) [(0, _), (4, _)] (fun x => row intE A c x.2.2 :: L) (fun x => xs.length - x.2.1) (k, 1, xs) Wkp Wsb ⟨by dsimp only; omega, by dsimp only; omega, by dsimp only; omega, by dsimp only; omega, (Comp.start hne hs (by omega)).skip (by omega) hkl h3⟩ ?_
        rintro ⟨k1, k2, ys⟩ ⟨hq1, hq2, hq3, hq4, hcomp⟩
        dsimp only at hq1 hq2 hq3 hq4 hcomp ⊢
        have hyl := hcomp.1
        refine GC.seq ?_
        refine GC.seq ?_
        refine GC.region ?_
        refine GL.v Wmv ?_
        refine GL.v Wmv ?_
        refine GL.v Wln ?_
        refine GL.v Wls ?_
        refine GL.nil ?_
        refine GE.seq ?_
        refine GC.ifs (fun h4 => ?_) (fun h4 => ?_)
        · -- FTTT
          have hR : Rd w0 (row intE A c ys :: L) intE _ (c - k) (ys.drop k) := (Rd.of_pick Pick.head).drop k
          have hdl : (ys.drop k).length = xs.length - k := by simp; omega
          have e2 : ((k2 : Int) - 1).toNat = k2 - 1 := by omega
          have a1 := hcomp.2.2.2.2 (k + k2) (by omega)
          have a2 := hcomp.2.2.2.2 (k + (k2 - 1)) (by omega)
          rw [show k + (k2 - 1) = k + k2 - 1 by omega] at a2
          refine GC.skip ?_
          refine GE.seq ?_
          refine GC.seq ?_
          refine GC.block ?_
          refine GC.seq ?_
          refine GC.region_quiet mixed (by kernel_rfl) ?_
          refine GL.v Wmv ?_
          refine GL.v Wmv ?_
          refine GL.v Wix ?_
          refine GL.v Wle ?_
          refine GL.v Wmv ?_
          refine GL.v Wmv ?_
          refine GL.v Wsu ?_
          refine GL.v Wix ?_
          refine GL.v Wle ?_
          refine GL.v Wnq ?_
          refine GL.nil ?_
          refine GE.seq ?_
          refine GC.ifs (fun h5 => ?_) (fun h5 => ?_)
          · -- FTTTT
            rw [at0_eq, at0_eq, e2, at0_drop, at0_drop, show k + (k2 - 1) = k + k2 - 1 by omega, a1, a2] at h5
            refine GC.seq ?_
            refine GC.region ?_
            refine GL.v Wmv ?_
            refine GL.v Wmv ?_
            refine GL.v Wmv ?_
            refine GL.v Wmv ?_
            refine GL.v Wix ?_
            refine GL.v Wle ?_
            refine GL.v Wix ?_
            refine GL.store_el rfl rfl Wpk rfl rfl rfl (by first | omega | (simp; done) | (simp; omega)) ?_
            refine GL.nil ?_
            refine GE.seq ?_
            refine GC.region ?_
            refine GL.v Wmv ?_
            refine GL.v Wad ?_
            refine GL.v Wag ?_
            refine GL.nil ?_
            refine GE.block ?_
            refine GE.seq ?_
            refine GC.region ?_
            refine GL.v Wmv ?_
            refine GL.v Wad ?_
            refine GL.v Wag ?_
            refine GL.nil ?_
            -- round of loop 2, path FTTTT
            rw [at0_eq, at0_drop, a1]
            refine GE.round (k1 + 1, k2 + 1, ys.set k1 (at0 xs (k + k2))) ⟨by dsimp only; omega, by dsimp only; omega, by dsimp only; omega, by dsimp only; omega, hcomp.put hs (by omega) (by omega) h5⟩ (by dsimp only; omega) Wkp Wsb
          · -- FTTTF
            rw [at0_eq, at0_eq, e2, at0_drop, at0_drop, show k + (k2 - 1) = k + k2 - 1 by omega, a1, a2] at h5
            refine GC.skip ?_
            refine GE.block ?_
            refine GE.seq ?_
            refine GC.region ?_
            refine GL.v Wmv ?_
            refine GL.v Wad ?_
            refine GL.v Wag ?_
            refine GL.nil ?_
            -- round of loop 2, path FTTTF
            refine GE.round (k1, k2 + 1, ys) ⟨by dsimp only; omega, by dsimp only; omega, by dsimp only; omega, by dsimp only; omega, hcomp.skip (by omega) (by omega) h5⟩ (by dsimp only; omega) Wkp Wsb
        · -- FTTF
          have ekk : k + k2 = xs.length := by omega
          rw [ekk] at hcomp
          have hml : (ys.take k1).length = k1 := by simp; omega
          refine GC.exit ?_
          refine GE.seq_exit ?_
          refine GE.loop_exit ?_
          refine GE.block_exit ?_
          refine GE.seq ?_
          refine GC.seq ?_
          refine GC.region ?_
          refine GL.v Wmv ?_
          refine GL.v Wmv ?_
          refine GL.v (by exact EvP.r (Ev.cut_from rfl rfl Wik (by omega))) ?_
          refine GL.clear rfl Wpk (by first | omega | (simp; done) | (simp; omega)) ?_ rfl
          refine GL.nil ?_
          refine GE.seq ?_
          refine GC.seq ?_
          refine GC.region ?_
          refine GL.v Wmv ?_
          refine GL.v Wmv ?_
          refine GL.v (by exact EvP.r (Ev.cut_to rfl rfl Wik (by omega))) ?_
          refine GL.v Wag ?_
          refine GL.nil ?_
          refine GE.seq ?_
          refine GC.ret ?_
          refine GE.block_ret ?_
          refine GE.seq_ret ?_
          refine GE.loop_ret ?_
          refine GE.block_ret ?_
          refine GE.seq_ret ?_
          -- returns, path FTTF
          refine GE.ret_tmp (L' := row intE A c (ys.take k1) :: L) (.inl rfl) rfl rfl Wsb ?_
          refine ⟨ys.take k1, hcomp.2.2.1, fun x => ?_, by omega, by rw [hml], rfl⟩
          rw [hcomp.2.2.2.1, List.take_length]
      · -- FTF
        rw [at0_eq, at0_eq, e1] at h3
        refine GC.skip ?_
        refine GE.block ?_
        refine GE.seq ?_
        refine GC.region ?_
        refine GL.v Wmv ?_
        refine GL.v Wad ?_
        refine GL.v Wag ?_
        refine GL.nil ?_
        -- round of loop 1, path FTF
        refine GE.round (k + 1) ⟨by omega, by omega, fun i h h' => ?_⟩ (by omega) Wkp Wsb
        by_cases e : i = k
        · subst e; exact h3
        · exact hne i h (by omega)
    · -- FF
      have ekk : k = xs.length := by omega
      subst ekk
      refine GC.exit ?_
      refine GE.seq_exit ?_
      refine GE.loop_exit ?_
      refine GE.block_exit ?_
      refine GE.seq ?_
      refine GC.seq ?_
      refine GC.region ?_
      refine GL.v Wmv ?_
      refine GL.v Wag ?_
      refine GL.nil ?_
      refine GE.seq ?_
      refine GC.ret ?_
      -- returns, path FF
      refine GE.ret_tmp (L' := row intE A c xs :: L) (.inl rfl) rfl rfl Wsb ?_
      refine ⟨xs, ?_, fun _ => Iff.rfl, Nat.le_refl _, rfl, rfl⟩
      have := (Comp.start (xs := xs) (k := xs.length) hne hs (Nat.le_refl _)).2.2.1
      rwa [List.take_length] at this
end SG
