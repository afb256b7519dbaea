/- More rules: xor. -/
import Derived.Test.YtllepoepfkobfaaCA
namespace SG
open Go Go.RowKit
set_option linter.unusedVariables false
section
variable {P : Program} {N : Nat} {F : Env} {dst : Option Tmp} {ty : TypeId} {pos : String} {after : Array Edge} {x y : Operand} {m n : Int} {t t' : TypeId}
theorem xor_i64 (m n : Int) (hm : 0 ≤ m ∧ m < 4611686018427387904) (hn : 0 ≤ n ∧ n < 4611686018427387904) : IntKind.i64.wrap ((BitVec.ofInt 64 m ^^^ BitVec.ofInt 64 n).toNat : Int) = ((m.toNat ^^^ n.toNat : Nat) : Int) := by
  have h1 : (BitVec.ofInt 64 m).toNat = m.toNat := by rw [BitVec.toNat_ofInt]; congr 1; omega
  have h2 : (BitVec.ofInt 64 n).toNat = n.toNat := by rw [BitVec.toNat_ofInt]; congr 1; omega
  rw [BitVec.toNat_xor, h1, h2]
  have hb : m.toNat ^^^ n.toNat < 2 ^ 62 := Nat.xor_lt_two_pow (by omega) (by omega)
  exact IntWalk.i64_in _ ⟨by omega, by omega⟩
theorem xor_bound (m n : Int) (hm : 0 ≤ m ∧ m < 4611686018427387904) (hn : 0 ≤ n ∧ n < 4611686018427387904) : m.toNat ^^^ n.toNat < 4611686018427387904 := by
  have hb : m.toNat ^^^ n.toNat < 2 ^ 62 := Nat.xor_lt_two_pow (by omega) (by omega)
  omega
theorem Ev.xor (hx : ev F x = some (.int .i64 m)) (hy : ev F y = some (.int .i64 n)) (hm : 0 ≤ m ∧ m < 4611686018427387904) (hn : 0 ≤ n ∧ n < 4611686018427387904) : EvP P N ⟨dst, .binOp .xor t x y t', ty, pos, after, none⟩ F (.int .i64 ((m.toNat ^^^ n.toNat : Nat) : Int)) := ⟨rfl, fun a w hf => by
  have e := xor_i64 m n hm hn
  simp only [execOp, hf.ev hx, hf.ev hy, eqGuard, binOp, Op.intBits, IntKind.bits]
  simp
  exact e⟩
end
end SG

/- Contracts: the reader. -/
namespace SG
open Go Go.RowKit Go.Proofs
set_option linter.unusedVariables false
set_option linter.unusedSimpArgs false
set_option maxRecDepth 100000

/-- the code's bytes, in memory that was there at the beginning -/
structure Code0 (w0 : World) (A : Option Addr) (c : Nat) (bs : List Int) : Prop where
  rd : Rd w0 [] byteE A c bs
  byte : ∀ x ∈ bs, 0 ≤ x ∧ x ≤ 255
  len : bs.length ≤ 2000
/-- the reader at a position -/
def rdr (g : Nat) (A : Option Addr) (c : Nat) (bs : List Int) (p : Int) : Asn := blk g 107 [.slice A bs.length c, .int .i64 p]

theorem pick_spec (w0 : World) (L : List Asn) (g : Nat) (A : Option Addr) (c : Nat) (bs : List Int) (hC : Code0 w0 A c bs) (p n : Int) (p0 : 0 ≤ p) (p1 : p ≤ 1000000) (n1 : n ≤ 1000000) (n0 : -1000000 ≤ n) :
    Tr Try.prog 109 #[.pointer (some ⟨g, 0, none⟩), .int .i64 n] w0 (rdr g A c bs p :: L) (fun v L' => ∃ x : Int, v = .int .i64 x ∧ 0 ≤ x ∧ (1 ≤ n → x < n) ∧ x ≤ 1000000 ∧ L' = rdr g A c bs (p + 1) :: L) := by
  have hR := hC.rd
  have hlen := hC.len
  unfold rdr
  refine Tr.enter (args := [.pointer (some ⟨g, 0, none⟩), .int .i64 n]) Try.func109 Try.ntmps109 rfl rfl ?_
  refine GC.seq ?_
  refine GC.region ?_
  refine GL.v Wag ?_
  refine GL.nil ?_
  refine GE.seq ?_
  refine GC.seq ?_
  refine GC.region ?_
  refine GL.v Wmv ?_
  refine GL.v Wmv ?_
  refine GL.v Wnc ?_
  refine GL.v Wfa ?_
  refine GL.v Wlb ?_
  refine GL.v Wad ?_
  refine GL.v Wnc ?_
  refine GL.v Wfa ?_
  refine GL.store_blk rfl rfl rfl Wpk (Nat.lt_of_lt_of_le (Nat.le_of_ble_eq_true (by rfl)) (Nat.le_refl _)) (by rfl) (by rfl) ?_
  refine GL.nil ?_
  refine GE.seq ?_
  refine GC.seq ?_
  refine GC.seq ?_
  refine GC.region ?_
  refine GL.v Wmv ?_
  refine GL.v Wls ?_
  refine GL.v Wmv ?_
  refine GL.gs (fun h1 => ?_) (fun h1 => ?_)
  · -- t
    refine GL.unwant rfl rfl rfl rfl ?_
    refine GL.unwant rfl rfl rfl rfl ?_
    refine GL.unwant rfl rfl rfl rfl ?_
    refine GL.unwant rfl rfl rfl rfl ?_
    refine GL.unwant rfl rfl rfl rfl ?_
    refine GL.unwant rfl rfl rfl rfl ?_
    refine GL.v Wpt ?_
    refine GL.nil ?_
    refine GE.seq ?_
    refine GC.cond_true rfl ?_
    refine GC.seq ?_
    refine GC.region ?_
    refine GL.v Wag ?_
    refine GL.nil ?_
    refine GE.seq ?_
    refine GC.ret ?_
    refine GE.seq_ret ?_
    -- returns, path t
    refine GE.ret_tmp (L' := blk g 107 [.slice A bs.length c, .int .i64 (p + 1)] :: L) (.inl rfl) rfl rfl Wsb ?_
    exact ⟨0, rfl, by omega, fun _ => by omega, by omega, rfl⟩
  · -- f
    refine GL.want rfl rfl ?_
    refine GL.v Wmv ?_
    refine GL.want rfl rfl ?_
    refine GL.v Wnc ?_
    refine GL.want rfl rfl ?_
    refine GL.v Wfa ?_
    refine GL.want rfl rfl ?_
    refine GL.v Wlb ?_
    refine GL.want rfl rfl ?_
    refine GL.v Wln ?_
    refine GL.want rfl rfl ?_
    refine GL.v Weq ?_
    refine GL.v Wpf ?_
    refine GL.nil ?_
    refine GE.seq ?_
    refine GC.ifs (fun h2 => ?_) (fun h2 => ?_)
    · -- fT
      refine GC.seq ?_
      refine GC.region ?_
      refine GL.v Wag ?_
      refine GL.nil ?_
      refine GE.seq ?_
      refine GC.ret ?_
      refine GE.seq_ret ?_
      -- returns, path fT
      refine GE.ret_tmp (L' := blk g 107 [.slice A bs.length c, .int .i64 (p + 1)] :: L) (.inl rfl) rfl rfl Wsb ?_
      exact ⟨0, rfl, by omega, fun _ => by omega, by omega, rfl⟩
    · -- fF
      refine GC.skip ?_
      refine GE.seq ?_
      refine GC.seq ?_
      refine GC.region ?_
      refine GL.v Wmv ?_
      refine GL.v Wnc ?_
      refine GL.v Wfa ?_
      refine GL.v Wlb ?_
      refine GL.v Wsu ?_
      refine GL.v Wag ?_
      refine GL.nil ?_
      refine GE.seq ?_
      refine GC.seq ?_
      refine GC.seq ?_
      refine GC.region ?_
      refine GL.v Wmv ?_
      refine GL.v Wmv ?_
      refine GL.v Wnc ?_
      refine GL.v Wfa ?_
      refine GL.v Wlb ?_
      refine GL.v Wln ?_
      refine GL.v Wls ?_
      refine GL.nil ?_
      refine GE.seq ?_
      refine GC.ifs (fun h3 => ?_) (fun h3 => ?_)
      · -- fFT
        have y1 := hC.byte _ (List.getElem_mem (l := bs) (n := (p + 1 - 1).toNat) (by omega))
        refine GC.seq ?_
        refine GC.region ?_
        refine GL.v Wmv ?_
        refine GL.v Wnc ?_
        refine GL.v Wfa ?_
        refine GL.v Wlb ?_
        refine GL.v Wmv ?_
        refine GL.v Wix ?_
        refine GL.v Wle ?_
        refine GL.v (by exact EvP.r (Ev.of_u8 rfl (by omega))) ?_
        refine GL.v Wmv ?_
        refine GL.v (by exact EvP.r (Ev.rem rfl rfl (by omega) (by omega))) ?_
        refine GL.v Wag ?_
        refine GL.nil ?_
        refine GE.seq ?_
        refine GC.ret ?_
        refine GE.seq_ret ?_
        -- returns, path fFT
        refine GE.ret_tmp (L' := blk g 107 [.slice A bs.length c, .int .i64 (p + 1)] :: L) (.inl rfl) rfl rfl Wsb ?_
        exact ⟨_, rfl, Int.emod_nonneg _ (by omega), fun _ => Int.emod_lt_of_pos _ (by omega), by have := Int.emod_lt_of_pos (bs[(p + 1 - 1).toNat]'(by omega)) (show 0 < n by omega); omega, rfl⟩
      · -- fFF
        have hbl : 0 < (bs.length : Int) := by omega
        have m1 : 0 ≤ (p + 1 - 1) % (bs.length : Int) := Int.emod_nonneg _ (by omega)
        have m2 : (p + 1 - 1) % (bs.length : Int) < bs.length := Int.emod_lt_of_pos _ hbl
        have m3 : 0 ≤ ((p + 1 - 1) * 7 + 3) % (bs.length : Int) := Int.emod_nonneg _ (by omega)
        have m4 : ((p + 1 - 1) * 7 + 3) % (bs.length : Int) < bs.length := Int.emod_lt_of_pos _ hbl
        have m5 : 0 ≤ (p + 1 - 1) / (bs.length : Int) := Int.ediv_nonneg (by omega) (by omega)
        have m6 : (p + 1 - 1) / (bs.length : Int) ≤ p + 1 - 1 := Int.ediv_le_self _ (by omega)
        have y1 := hC.byte _ (List.getElem_mem (l := bs) (n := ((p + 1 - 1) % (bs.length : Int)).toNat) (by omega))
        have y2 := hC.byte _ (List.getElem_mem (l := bs) (n := (((p + 1 - 1) * 7 + 3) % (bs.length : Int)).toNat) (by omega))
        refine GC.skip ?_
        refine GE.seq ?_
        refine GC.seq ?_
        refine GC.region_quiet mixed (by kernel_rfl) ?_
        refine GL.v Wmv ?_
        refine GL.v Wnc ?_
        refine GL.v Wfa ?_
        refine GL.v Wlb ?_
        refine GL.v Wmv ?_
        refine GL.v Wmv ?_
        refine GL.v Wnc ?_
        refine GL.v Wfa ?_
        refine GL.v Wlb ?_
        refine GL.v Wln ?_
        refine GL.v (by exact EvP.r (Ev.rem rfl rfl (by omega) (by omega))) ?_
        refine GL.v Wix ?_
        refine GL.v Wle ?_
        refine GL.v (by exact EvP.r (Ev.of_u8 rfl (by omega))) ?_
        refine GL.v (by exact EvP.r (Ev.mul rfl rfl (by omega))) ?_
        refine GL.v Wmv ?_
        refine GL.v Wnc ?_
        refine GL.v Wfa ?_
        refine GL.v Wlb ?_
        refine GL.v Wmv ?_
        refine GL.v (by exact EvP.r (Ev.mul rfl rfl (by omega))) ?_
        refine GL.v Wad ?_
        refine GL.v Wmv ?_
        refine GL.v Wnc ?_
        refine GL.v Wfa ?_
        refine GL.v Wlb ?_
        refine GL.v Wln ?_
        refine GL.v (by exact EvP.r (Ev.rem rfl rfl (by omega) (by omega))) ?_
        refine GL.v Wix ?_
        refine GL.v Wle ?_
        refine GL.v (by exact EvP.r (Ev.of_u8 rfl (by omega))) ?_
        refine GL.v (by exact EvP.r (Ev.mul rfl rfl (by omega))) ?_
        refine GL.v Wad ?_
        refine GL.v Wmv ?_
        refine GL.v (by exact EvP.r (Ev.mul rfl rfl (by omega))) ?_
        refine GL.v Wad ?_
        refine GL.v Wmv ?_
        refine GL.v Wmv ?_
        refine GL.v Wnc ?_
        refine GL.v Wfa ?_
        refine GL.v Wlb ?_
        refine GL.v Wln ?_
        refine GL.v (by exact EvP.r (Ev.quo rfl rfl (by omega) (by omega) (by omega))) ?_
        refine GL.v (by exact EvP.r (Ev.mul rfl rfl (by omega))) ?_
        refine GL.v Wad ?_
        refine GL.v Wag ?_
        refine GL.nil ?_
        refine GE.seq ?_
        refine GC.seq ?_
        refine GC.region ?_
        refine GL.v Wmv ?_
        refine GL.v Wmv ?_
        refine GL.v (by exact EvP.r (Ev.quo rfl rfl (by omega) (by omega) (by omega))) ?_
        refine GL.v (by exact EvP.r (Ev.xor rfl rfl (by omega) (by omega))) ?_
        refine GL.v Wag ?_
        refine GL.nil ?_
        refine GE.seq ?_
        refine GC.seq ?_
        refine GC.region ?_
        refine GL.v Wmv ?_
        refine GL.v Wmv ?_
        refine GL.v (by exact EvP.r (Ev.rem rfl rfl (by omega) (by omega))) ?_
        refine GL.v Wag ?_
        refine GL.nil ?_
        refine GE.seq ?_
        refine GC.ret ?_
        -- returns, path fFF
        refine GE.ret_tmp (L' := blk g 107 [.slice A bs.length c, .int .i64 (p + 1)] :: L) (.inl rfl) rfl rfl Wsb ?_
        exact ⟨_, rfl, Int.emod_nonneg _ (by omega), fun _ => Int.emod_lt_of_pos _ (by omega), by refine Int.le_trans (Int.le_of_lt (Int.emod_lt_of_pos _ (show 0 < n by omega))) n1, rfl⟩
end SG

/- Contracts: one, readPartOf, newReader. -/
namespace SG
open Go Go.RowKit Go.Proofs
set_option linter.unusedVariables false
set_option linter.unusedSimpArgs false
set_option maxRecDepth 100000

theorem one_spec (w0 : World) (L : List Asn) (g : Nat) (A : Option Addr) (c : Nat) (bs : List Int) (hC : Code0 w0 A c bs) (p : Int) (p0 : 0 ≤ p) (p1 : p ≤ 1000000) (B : Option Addr) (d : Nat) (xs : List Int) (hX : Rd w0 L intE B d xs) (k : Nat) (hk : k = xs.length) (x0 : 1 ≤ xs.length) (x1 : xs.length ≤ 1000) :
    Tr Try.prog 108 #[.pointer (some ⟨g, 0, none⟩), .slice B k d] w0 (rdr g A c bs p :: L) (fun v L' => ∃ x : Int, v = .int .i64 x ∧ x ∈ xs ∧ L' = rdr g A c bs (p + 1) :: L) := by
  subst hk
  refine Tr.enter (args := [.pointer (some ⟨g, 0, none⟩), .slice B xs.length d]) Try.func108 Try.ntmps108 rfl rfl ?_
  refine GC.seq ?_
  refine GC.region ?_
  refine GL.v Wag ?_
  refine GL.nil ?_
  refine GE.seq ?_
  refine GC.seq ?_
  refine GC.region ?_
  refine GL.v Wmv ?_
  refine GL.v Wmv ?_
  refine GL.v Wmv ?_
  refine GL.v Wln ?_
  refine GL.front (A := rdr _ _ _ _ _) Wpk ?_
  refine GL.call rfl rfl (pick_spec _ _ _ _ _ _ (by assumption) _ _ (by omega) (by omega) (by omega) (by omega)) ?_
  rintro _ _ ⟨x9, rfl, x9a, x9b, x9c, rfl⟩
  have hlt := x9b (by omega)
  refine GL.v Wix ?_
  refine GL.v Wle ?_
  refine GL.v Wag ?_
  refine GL.nil ?_
  refine GE.seq ?_
  refine GC.ret ?_
  -- returns, path 
  refine GE.ret_tmp (L' := rdr g A c bs (p + 1) :: L) (.inl rfl) rfl rfl Wsb ?_
  exact ⟨_, rfl, List.getElem_mem _, rfl⟩
def RP (xs : List Int) (q : Part) : Prop := (∃ k : Int, 0 ≤ k ∧ k < 10 ∧ q = numPart k) ∨ ∃ n ∈ xs, q = ⟨1, -1, -1, -1, n⟩
theorem readPartOf_spec (w0 : World) (L : List Asn) (g : Nat) (A : Option Addr) (c : Nat) (bs : List Int) (hC : Code0 w0 A c bs) (p : Int) (p0 : 0 ≤ p) (p1 : p ≤ 1000000) (B : Option Addr) (d : Nat) (xs : List Int) (hX : Rd w0 L intE B d xs) (x1 : xs.length ≤ 1000) :
    Tr Try.prog 135 #[.pointer (some ⟨g, 0, none⟩), .slice B xs.length d] w0 (rdr g A c bs p :: L) (fun v L' => ∃ q : Part, v = q.val ∧ RP xs q ∧ L' = rdr g A c bs (p + 1) :: L) := by
  refine Tr.enter (args := [.pointer (some ⟨g, 0, none⟩), .slice B xs.length d]) Try.func135 Try.ntmps135 rfl rfl ?_
  refine GC.seq ?_
  refine GC.region ?_
  refine GL.alloc rfl ?_; intro g4
  refine GL.nil ?_
  refine GE.seq ?_
  refine GC.seq ?_
  refine GC.seq ?_
  refine GC.region ?_
  refine GL.v Wmv ?_
  refine GL.v Wln ?_
  refine GL.v Weq ?_
  refine GL.nil ?_
  refine GE.seq ?_
  refine GC.ifs (fun h1 => ?_) (fun h1 => ?_)
  · -- T
    refine GC.seq ?_
    refine GC.region ?_
    refine GL.v Wmv ?_
    refine GL.front (A := rdr _ _ _ _ _) Wpk ?_
    refine GL.call rfl rfl (pick_spec _ _ _ _ _ _ (by assumption) _ _ (by omega) (by omega) (by omega) (by omega)) ?_
    rintro _ _ ⟨x9, rfl, x9a, x9b, x9c, rfl⟩
    refine GL.callF rfl rfl (numberPart_spec _ _ _) ?_
    refine GL.store_varN rfl rfl rfl Wpk (by rfl) (by rfl) (by rfl) ?_
    refine GL.nil ?_
    refine GE.seq ?_
    refine GC.ret ?_
    refine GE.seq_ret ?_
    -- returns, path T
    refine GE.ret_cell (L' := rdr g A c bs (p + 1) :: L) (.inl rfl) rfl rfl rfl (BlkRd.of_pick Wpk) (by rfl) Wsb ?_
    exact ⟨numPart x9, rfl, .inl ⟨x9, by omega, x9b (by omega), rfl⟩, rfl⟩
  · -- F
    refine GC.skip ?_
    refine GE.seq ?_
    refine GC.seq ?_
    refine GC.region ?_
    refine GL.v Wmv ?_
    refine GL.v Wmv ?_
    refine GL.v Wmv ?_
    refine GL.v Wln ?_
    refine GL.front (A := rdr _ _ _ _ _) Wpk ?_
    refine GL.call rfl rfl (pick_spec _ _ _ _ _ _ (by assumption) _ _ (by omega) (by omega) (by omega) (by omega)) ?_
    rintro _ _ ⟨x15, rfl, x15a, x15b, x15c, rfl⟩
    have hlt := x15b (by omega)
    refine GL.v Wix ?_
    refine GL.v Wle ?_
    refine GL.v (by exact EvP.r (Ev.build rfl (by first | exact bdPart ⟨_, _, _, _, _⟩ | exact bdReader _ _ _ | exact bdPart4 _ _ _ _ | exact bdForm _ _ _ | exact bdForm0 | exact bdGraph0 | exact bdGraph _ _ _ | exact bdNode1 _ | exact bdNode2 _ _ _ _ | exact bdHist0 | exact bdHist1 _ _ _ | exact bdHist2 _ _ _ _))) ?_
    refine GL.store_varN rfl rfl rfl Wpk (by rfl) (by rfl) (by rfl) ?_
    refine GL.nil ?_
    refine GE.seq ?_
    refine GC.ret ?_
    -- returns, path F
    refine GE.ret_cell (L' := rdr g A c bs (p + 1) :: L) (.inl rfl) rfl rfl rfl (BlkRd.of_pick Wpk) (by rfl) Wsb ?_
    exact ⟨⟨1, -1, -1, -1, _⟩, rfl, .inr ⟨_, List.getElem_mem _, rfl⟩, rfl⟩
theorem Code0.take {w0 : World} {A : Option Addr} {c : Nat} {bs : List Int} (h : Rd w0 [] byteE A c bs) (hb : ∀ x ∈ bs, 0 ≤ x ∧ x ≤ 255) : Code0 w0 A c (bs.take 2000) := ⟨h.take 2000, fun x hx => hb x (List.mem_of_mem_take hx), by simp; omega⟩
theorem newReader_spec (w0 : World) (L : List Asn) (A : Option Addr) (c : Nat) (bs : List Int) (hR : Rd w0 [] byteE A c bs) (hl : bs.length ≤ 2000000) (hc : bs.length ≤ c) :
    Tr Try.prog 50 #[.slice A bs.length c] w0 L (fun v L' => ∃ g, v = .pointer (some ⟨g, 0, none⟩) ∧ L' = rdr g A c (bs.take 2000) 0 :: L) := by
  refine Tr.enter (args := [.slice A bs.length c]) Try.func50 Try.ntmps50 rfl rfl ?_
  refine GC.seq ?_
  refine GC.region ?_
  refine GL.v Wag ?_
  refine GL.nil ?_
  refine GE.seq ?_
  refine GC.seq ?_
  refine GC.seq ?_
  refine GC.region ?_
  refine GL.v Wmv ?_
  refine GL.v Wln ?_
  refine GL.v Wgt ?_
  refine GL.nil ?_
  refine GE.seq ?_
  refine GC.ifs (fun h1 => ?_) (fun h1 => ?_)
  · -- T
    refine GC.region ?_
    refine GL.v Wmv ?_
    refine GL.v (by exact EvP.r (Ev.cut_to (k := 2000) rfl rfl rfl (by omega))) ?_
    refine GL.v Wag ?_
    refine GL.nil ?_
    refine GE.seq ?_
    refine GC.seq ?_
    refine GC.region ?_
    refine GL.v Wmv ?_
    refine GL.v (by exact EvP.r (Ev.build rfl (by first | exact bdPart ⟨_, _, _, _, _⟩ | exact bdReader _ _ _ | exact bdPart4 _ _ _ _ | exact bdForm _ _ _ | exact bdForm0 | exact bdGraph0 | exact bdGraph _ _ _ | exact bdNode1 _ | exact bdNode2 _ _ _ _ | exact bdHist0 | exact bdHist1 _ _ _ | exact bdHist2 _ _ _ _))) ?_
    refine GL.box_agg rfl rfl ?_; intro g10
    refine GL.v Wag ?_
    refine GL.nil ?_
    refine GE.seq ?_
    refine GC.ret ?_
    -- returns, path T
    refine GE.ret_tmp (L' := blk g10 107 [.slice A 2000 c, .int .i64 0] :: L) (.inl rfl) rfl rfl Wsb ?_
    have e : (bs.take 2000).length = 2000 := by simp; omega
    exact ⟨g10, rfl, by unfold rdr; rw [e]⟩
  · -- F
    refine GC.skip ?_
    refine GE.seq ?_
    refine GC.seq ?_
    refine GC.region ?_
    refine GL.v Wmv ?_
    refine GL.v (by exact EvP.r (Ev.build rfl (by first | exact bdPart ⟨_, _, _, _, _⟩ | exact bdReader _ _ _ | exact bdPart4 _ _ _ _ | exact bdForm _ _ _ | exact bdForm0 | exact bdGraph0 | exact bdGraph _ _ _ | exact bdNode1 _ | exact bdNode2 _ _ _ _ | exact bdHist0 | exact bdHist1 _ _ _ | exact bdHist2 _ _ _ _))) ?_
    refine GL.box_agg rfl rfl ?_; intro g10
    refine GL.v Wag ?_
    refine GL.nil ?_
    refine GE.seq ?_
    refine GC.ret ?_
    -- returns, path F
    refine GE.ret_tmp (L' := blk g10 107 [.slice A bs.length c, .int .i64 0] :: L) (.inl rfl) rfl rfl Wsb ?_
    have e : (bs.take 2000).length = bs.length := by simp; omega
    exact ⟨g10, rfl, by unfold rdr; rw [e]⟩
end SG
