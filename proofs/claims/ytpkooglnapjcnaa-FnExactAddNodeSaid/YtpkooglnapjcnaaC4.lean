/- Contracts: the reader. -/
import Derived.Test.YtpkooglnapjcnaaOp4
namespace SG
open Go Go.RowKit Go.Proofs
set_option linter.unusedVariables false
set_option linter.unusedSimpArgs false
set_option maxRecDepth 100000

/-- the code's bytes, in memory that was there at the beginning -/
structure Code0 (w0 : World) (A : Option Addr) (c : Nat) (bs : List Int) : Prop where
  rd : Rd w0 [] byteE A c bs
  byte : ∀ x ∈ bs, 0 ≤ x ∧ x ≤ 255
  len : bs.length ≤ 2000
/-- the reader at a position -/
def rdr (g : Nat) (A : Option Addr) (c : Nat) (bs : List Int) (p : Int) : Asn := blk g 133 [.slice A bs.length c, .int .i64 p]

theorem pick_spec (w0 : World) (L : List Asn) (g : Nat) (A : Option Addr) (c : Nat) (bs : List Int) (hC : Code0 w0 A c bs) (p n : Int) (p0 : 0 ≤ p) (p1 : p ≤ 1000000) (n1 : n ≤ 1000000) (n0 : -1000000 ≤ n) :
    Tr Try.prog 61 #[.pointer (some ⟨g, 0, none⟩), .int .i64 n] w0 (rdr g A c bs p :: L) (fun v L' => ∃ x : Int, v = .int .i64 x ∧ 0 ≤ x ∧ (1 ≤ n → x < n) ∧ x ≤ 1000000 ∧ L' = rdr g A c bs (p + 1) :: L) := by
  have hR := hC.rd
  have hlen := hC.len
  unfold rdr
  refine Tr.enter (args := [.pointer (some ⟨g, 0, none⟩), .int .i64 n]) Try.func61 Try.ntmps61 rfl rfl ?_
  refine GC.seq ?_
  refine GC.region ?_
  refine GL.v Wag ?_
  refine GL.nil ?_
  refine GE.seq ?_
  refine GC.seq ?_
  refine GC.region ?_
  refine GL.v Wmv ?_
  refine GL.v Wmv ?_
  refine GL.v Wnc ?_
  refine GL.v Wfa ?_
  refine GL.v Wlb ?_
  refine GL.v Wad ?_
  refine GL.v Wnc ?_
  refine GL.v Wfa ?_
  refine GL.store_blk rfl rfl rfl Wpk (Nat.lt_of_lt_of_le (Nat.le_of_ble_eq_true (by rfl)) (Nat.le_refl _)) (by rfl) (by rfl) ?_
  refine GL.nil ?_
  refine GE.seq ?_
  refine GC.seq ?_
  refine GC.seq ?_
  refine GC.region ?_
  refine GL.v Wmv ?_
  refine GL.v Wls ?_
  refine GL.v Wmv ?_
  refine GL.gs (fun h1 => ?_) (fun h1 => ?_)
  · -- t
    refine GL.unwant rfl rfl rfl rfl ?_
    refine GL.unwant rfl rfl rfl rfl ?_
    refine GL.unwant rfl rfl rfl rfl ?_
    refine GL.unwant rfl rfl rfl rfl ?_
    refine GL.unwant rfl rfl rfl rfl ?_
    refine GL.unwant rfl rfl rfl rfl ?_
    refine GL.v Wpt ?_
    refine GL.nil ?_
    refine GE.seq ?_
    refine GC.cond_true rfl ?_
    refine GC.seq ?_
    refine GC.region ?_
    refine GL.v Wag ?_
    refine GL.nil ?_
    refine GE.seq ?_
    refine GC.ret ?_
    refine GE.seq_ret ?_
    -- returns, path t
    refine GE.ret_tmp (L' := blk g 133 [.slice A bs.length c, .int .i64 (p + 1)] :: L) (.inl rfl) rfl rfl Wsb ?_
    exact ⟨0, rfl, by omega, fun _ => by omega, by omega, rfl⟩
  · -- f
    refine GL.want rfl rfl ?_
    refine GL.v Wmv ?_
    refine GL.want rfl rfl ?_
    refine GL.v Wnc ?_
    refine GL.want rfl rfl ?_
    refine GL.v Wfa ?_
    refine GL.want rfl rfl ?_
    refine GL.v Wlb ?_
    refine GL.want rfl rfl ?_
    refine GL.v Wln ?_
    refine GL.want rfl rfl ?_
    refine GL.v Weq ?_
    refine GL.v Wpf ?_
    refine GL.nil ?_
    refine GE.seq ?_
    refine GC.ifs (fun h2 => ?_) (fun h2 => ?_)
    · -- fT
      refine GC.seq ?_
      refine GC.region ?_
      refine GL.v Wag ?_
      refine GL.nil ?_
      refine GE.seq ?_
      refine GC.ret ?_
      refine GE.seq_ret ?_
      -- returns, path fT
      refine GE.ret_tmp (L' := blk g 133 [.slice A bs.length c, .int .i64 (p + 1)] :: L) (.inl rfl) rfl rfl Wsb ?_
      exact ⟨0, rfl, by omega, fun _ => by omega, by omega, rfl⟩
    · -- fF
      refine GC.skip ?_
      refine GE.seq ?_
      refine GC.seq ?_
      refine GC.region ?_
      refine GL.v Wmv ?_
      refine GL.v Wnc ?_
      refine GL.v Wfa ?_
      refine GL.v Wlb ?_
      refine GL.v Wsu ?_
      refine GL.v Wag ?_
      refine GL.nil ?_
      refine GE.seq ?_
      refine GC.seq ?_
      refine GC.seq ?_
      refine GC.region ?_
      refine GL.v Wmv ?_
      refine GL.v Wmv ?_
      refine GL.v Wnc ?_
      refine GL.v Wfa ?_
      refine GL.v Wlb ?_
      refine GL.v Wln ?_
      refine GL.v Wls ?_
      refine GL.nil ?_
      refine GE.seq ?_
      refine GC.ifs (fun h3 => ?_) (fun h3 => ?_)
      · -- fFT
        have y1 := hC.byte _ (List.getElem_mem (l := bs) (n := (p + 1 - 1).toNat) (by omega))
        refine GC.seq ?_
        refine GC.region ?_
        refine GL.v Wmv ?_
        refine GL.v Wnc ?_
        refine GL.v Wfa ?_
        refine GL.v Wlb ?_
        refine GL.v Wmv ?_
        refine GL.v Wix ?_
        refine GL.v Wle ?_
        refine GL.v (by exact EvP.r (Ev.of_u8 rfl (by omega))) ?_
        refine GL.v Wmv ?_
        refine GL.v (by exact EvP.r (Ev.rem rfl rfl (by omega) (by omega))) ?_
        refine GL.v Wag ?_
        refine GL.nil ?_
        refine GE.seq ?_
        refine GC.ret ?_
        refine GE.seq_ret ?_
        -- returns, path fFT
        refine GE.ret_tmp (L' := blk g 133 [.slice A bs.length c, .int .i64 (p + 1)] :: L) (.inl rfl) rfl rfl Wsb ?_
        exact ⟨_, rfl, Int.emod_nonneg _ (by omega), fun _ => Int.emod_lt_of_pos _ (by omega), by have := Int.emod_lt_of_pos (bs[(p + 1 - 1).toNat]'(by omega)) (show 0 < n by omega); omega, rfl⟩
      · -- fFF
        have hbl : 0 < (bs.length : Int) := by omega
        have m1 : 0 ≤ (p + 1 - 1) % (bs.length : Int) := Int.emod_nonneg _ (by omega)
        have m2 : (p + 1 - 1) % (bs.length : Int) < bs.length := Int.emod_lt_of_pos _ hbl
        have m3 : 0 ≤ ((p + 1 - 1) * 7 + 3) % (bs.length : Int) := Int.emod_nonneg _ (by omega)
        have m4 : ((p + 1 - 1) * 7 + 3) % (bs.length : Int) < bs.length := Int.emod_lt_of_pos _ hbl
        have m5 : 0 ≤ (p + 1 - 1) / (bs.length : Int) := Int.ediv_nonneg (by omega) (by omega)
        have m6 : (p + 1 - 1) / (bs.length : Int) ≤ p + 1 - 1 := Int.ediv_le_self _ (by omega)
        have y1 := hC.byte _ (List.getElem_mem (l := bs) (n := ((p + 1 - 1) % (bs.length : Int)).toNat) (by omega))
        have y2 := hC.byte _ (List.getElem_mem (l := bs) (n := (((p + 1 - 1) * 7 + 3) % (bs.length : Int)).toNat) (by omega))
        refine GC.skip ?_
        refine GE.seq ?_
        refine GC.seq ?_
        refine GC.region_quiet mixed (by kernel_rfl) ?_
        refine GL.v Wmv ?_
        refine GL.v Wnc ?_
        refine GL.v Wfa ?_
        refine GL.v Wlb ?_
        refine GL.v Wmv ?_
        refine GL.v Wmv ?_
        refine GL.v Wnc ?_
        refine GL.v Wfa ?_
        refine GL.v Wlb ?_
        refine GL.v Wln ?_
        refine GL.v (by exact EvP.r (Ev.rem rfl rfl (by omega) (by omega))) ?_
        refine GL.v Wix ?_
        refine GL.v Wle ?_
        refine GL.v (by exact EvP.r (Ev.of_u8 rfl (by omega))) ?_
        refine GL.v (by exact EvP.r (Ev.mul rfl rfl (by omega))) ?_
        refine GL.v Wmv ?_
        refine GL.v Wnc ?_
        refine GL.v Wfa ?_
        refine GL.v Wlb ?_
        refine GL.v Wmv ?_
        refine GL.v (by exact EvP.r (Ev.mul rfl rfl (by omega))) ?_
        refine GL.v Wad ?_
        refine GL.v Wmv ?_
        refine GL.v Wnc ?_
        refine GL.v Wfa ?_
        refine GL.v Wlb ?_
        refine GL.v Wln ?_
        refine GL.v (by exact EvP.r (Ev.rem rfl rfl (by omega) (by omega))) ?_
        refine GL.v Wix ?_
        refine GL.v Wle ?_
        refine GL.v (by exact EvP.r (Ev.of_u8 rfl (by omega))) ?_
        refine GL.v (by exact EvP.r (Ev.mul rfl rfl (by omega))) ?_
        refine GL.v Wad ?_
        refine GL.v Wmv ?_
        refine GL.v (by exact EvP.r (Ev.mul rfl rfl (by omega))) ?_
        refine GL.v Wad ?_
        refine GL.v Wmv ?_
        refine GL.v Wmv ?_
        refine GL.v Wnc ?_
        refine GL.v Wfa ?_
        refine GL.v Wlb ?_
        refine GL.v Wln ?_
        refine GL.v (by exact EvP.r (Ev.quo rfl rfl (by omega) (by omega) (by omega))) ?_
        refine GL.v (by exact EvP.r (Ev.mul rfl rfl (by omega))) ?_
        refine GL.v Wad ?_
        refine GL.v Wag ?_
        refine GL.nil ?_
        refine GE.seq ?_
        refine GC.seq ?_
        refine GC.region ?_
        refine GL.v Wmv ?_
        refine GL.v Wmv ?_
        refine GL.v (by exact EvP.r (Ev.quo rfl rfl (by omega) (by omega) (by omega))) ?_
        refine GL.v (by exact EvP.r (Ev.xor rfl rfl (by omega) (by omega))) ?_
        refine GL.v Wag ?_
        refine GL.nil ?_
        refine GE.seq ?_
        refine GC.seq ?_
        refine GC.region ?_
        refine GL.v Wmv ?_
        refine GL.v Wmv ?_
        refine GL.v (by exact EvP.r (Ev.rem rfl rfl (by omega) (by omega))) ?_
        refine GL.v Wag ?_
        refine GL.nil ?_
        refine GE.seq ?_
        refine GC.ret ?_
        -- returns, path fFF
        refine GE.ret_tmp (L' := blk g 133 [.slice A bs.length c, .int .i64 (p + 1)] :: L) (.inl rfl) rfl rfl Wsb ?_
        exact ⟨_, rfl, Int.emod_nonneg _ (by omega), fun _ => Int.emod_lt_of_pos _ (by omega), by refine Int.le_trans (Int.le_of_lt (Int.emod_lt_of_pos _ (show 0 < n by omega))) n1, rfl⟩
end SG
