/- Contracts: one, readPartOf, newReader. -/
import Derived.Test.YtglmfcligilhjaaC4
namespace SG
open Go Go.RowKit Go.Proofs
set_option linter.unusedVariables false
set_option linter.unusedSimpArgs false
set_option maxRecDepth 100000

theorem one_spec (w0 : World) (L : List Asn) (g : Nat) (A : Option Addr) (c : Nat) (bs : List Int) (hC : Code0 w0 A c bs) (p : Int) (p0 : 0 ≤ p) (p1 : p ≤ 1000000) (B : Option Addr) (d : Nat) (xs : List Int) (hX : Rd w0 L intE B d xs) (k : Nat) (hk : k = xs.length) (x0 : 1 ≤ xs.length) (x1 : xs.length ≤ 1000) :
    Tr Try.prog 43 #[.pointer (some ⟨g, 0, none⟩), .slice B k d] w0 (rdr g A c bs p :: L) (fun v L' => ∃ x : Int, v = .int .i64 x ∧ x ∈ xs ∧ L' = rdr g A c bs (p + 1) :: L) := by
  subst hk
  refine Tr.enter (args := [.pointer (some ⟨g, 0, none⟩), .slice B xs.length d]) Try.func43 Try.ntmps43 rfl rfl ?_
  refine GC.seq ?_
  refine GC.region ?_
  refine GL.val (by exact EvP.r (Ev.assign rfl)) rfl rfl ?_
  refine GL.nil ?_
  refine GE.seq ?_
  refine GC.seq ?_
  refine GC.region ?_
  refine GL.val (by exact EvP.r (Ev.move rfl)) rfl rfl ?_
  refine GL.val (by exact EvP.r (Ev.move rfl)) rfl rfl ?_
  refine GL.val (by exact EvP.r (Ev.move rfl)) rfl rfl ?_
  refine GL.val (by exact EvP.r (Ev.len rfl)) rfl rfl ?_
  refine GL.front (A := rdr _ _ _ _ _) (by (repeat (first | exact Pick.head | apply Pick.tail)); fail_if_success (focus skip)) ?_
  refine GL.call rfl rfl (pick_spec _ _ _ _ _ _ (by assumption) _ _ (by omega) (by omega) (by omega) (by omega)) ?_
  rintro _ _ ⟨x9, rfl, x9a, x9b, x9c, rfl⟩
  have hlt := x9b (by omega)
  refine GL.val (by exact (by first | exact Ev.index rfl rfl (by assumption) (by first | exact Imp.refl | exact Imp.nil | ((repeat (first | exact Imp.refl | refine Imp.cons ?_)); fail_if_success (focus skip))) (by first | rfl | exact (Int.toNat_of_nonneg (by omega)).symm) (by omega) (by first | exact Nat.le_refl _ | (simp; done) | omega | (simp; omega)) | exact Ev.index rfl rfl (Rd.of_pick (by (repeat (first | exact Pick.head | apply Pick.tail)); fail_if_success (focus skip))) Imp.refl (by first | rfl | exact (Int.toNat_of_nonneg (by omega)).symm) (by omega) (by first | exact Nat.le_refl _ | (simp; done) | omega | (simp; omega)))) rfl rfl ?_
  refine GL.val (by exact (by first | exact Ev.load_el rfl (by assumption) (by first | exact Imp.refl | exact Imp.nil | ((repeat (first | exact Imp.refl | refine Imp.cons ?_)); fail_if_success (focus skip))) rfl rfl rfl (List.getElem?_eq_getElem (by first | omega | (simp; done) | (simp; omega))) | exact Ev.load_el rfl (Rd.of_pick (by (repeat (first | exact Pick.head | apply Pick.tail)); fail_if_success (focus skip))) Imp.refl rfl rfl rfl (List.getElem?_eq_getElem (by first | omega | (simp; done) | (simp; omega))))) rfl rfl ?_
  refine GL.val (by exact EvP.r (Ev.assign rfl)) rfl rfl ?_
  refine GL.nil ?_
  refine GE.seq ?_
  refine GC.ret ?_
  -- returns, path 
  refine GE.ret_tmp (L' := rdr g A c bs (p + 1) :: L) (.inl rfl) rfl rfl (by first | exact Sub.refl | exact Sub.nil | (repeat (first | exact Sub.refl | exact Sub.nil | refine Sub.cons (by (repeat (first | exact Pick.head | apply Pick.tail)); fail_if_success (focus skip)) ?_ | refine Sub.drop ?_))) ?_
  exact ⟨_, rfl, List.getElem_mem _, rfl⟩
def RP (xs : List Int) (q : Part) : Prop := (∃ k : Int, 0 ≤ k ∧ k < 10 ∧ q = numPart k) ∨ ∃ n ∈ xs, q = ⟨1, -1, -1, -1, n⟩
theorem readPartOf_spec (w0 : World) (L : List Asn) (g : Nat) (A : Option Addr) (c : Nat) (bs : List Int) (hC : Code0 w0 A c bs) (p : Int) (p0 : 0 ≤ p) (p1 : p ≤ 1000000) (B : Option Addr) (d : Nat) (xs : List Int) (hX : Rd w0 L intE B d xs) (x1 : xs.length ≤ 1000) :
    Tr Try.prog 93 #[.pointer (some ⟨g, 0, none⟩), .slice B xs.length d] w0 (rdr g A c bs p :: L) (fun v L' => ∃ q : Part, v = q.val ∧ RP xs q ∧ L' = rdr g A c bs (p + 1) :: L) := by
  refine Tr.enter (args := [.pointer (some ⟨g, 0, none⟩), .slice B xs.length d]) Try.func93 Try.ntmps93 rfl rfl ?_
  refine GC.seq ?_
  refine GC.region ?_
  refine GL.alloc rfl ?_; intro g4
  refine GL.nil ?_
  refine GE.seq ?_
  refine GC.seq ?_
  refine GC.seq ?_
  refine GC.region ?_
  refine GL.val (by exact EvP.r (Ev.move rfl)) rfl rfl ?_
  refine GL.val (by exact EvP.r (Ev.len rfl)) rfl rfl ?_
  refine GL.val (by exact EvP.r (Ev.eql rfl rfl)) rfl rfl ?_
  refine GL.nil ?_
  refine GE.seq ?_
  first | refine GC.if_dec rfl (fun h1 => ?_) (fun h1 => ?_) | refine GC.if_ndec rfl (fun h1 => ?_) (fun h1 => ?_) | refine GC.if_not rfl (fun h1 => ?_) (fun h1 => ?_) | refine GC.if_bool rfl (fun h1 => ?_) (fun h1 => ?_)
  · -- T
    refine GC.seq ?_
    refine GC.region ?_
    refine GL.val (by exact EvP.r (Ev.move rfl)) rfl rfl ?_
    refine GL.front (A := rdr _ _ _ _ _) (by (repeat (first | exact Pick.head | apply Pick.tail)); fail_if_success (focus skip)) ?_
    refine GL.call rfl rfl (pick_spec _ _ _ _ _ _ (by assumption) _ _ (by omega) (by omega) (by omega) (by omega)) ?_
    rintro _ _ ⟨x9, rfl, x9a, x9b, x9c, rfl⟩
    refine GL.callF rfl rfl (numberPart_spec _ _ _) ?_
    refine GL.store_varN rfl rfl rfl (by (repeat (first | exact Pick.head | apply Pick.tail)); fail_if_success (focus skip)) (by rfl) (by rfl) (by rfl) ?_
    refine GL.nil ?_
    refine GE.seq ?_
    refine GC.ret ?_
    refine GE.seq_ret ?_
    -- returns, path T
    refine GE.ret_cell (L' := rdr g A c bs (p + 1) :: L) (.inl rfl) rfl rfl rfl (BlkRd.of_pick (by (repeat (first | exact Pick.head | apply Pick.tail)); fail_if_success (focus skip))) (by rfl) (by first | exact Sub.refl | exact Sub.nil | (repeat (first | exact Sub.refl | exact Sub.nil | refine Sub.cons (by (repeat (first | exact Pick.head | apply Pick.tail)); fail_if_success (focus skip)) ?_ | refine Sub.drop ?_))) ?_
    exact ⟨numPart x9, rfl, .inl ⟨x9, by omega, x9b (by omega), rfl⟩, rfl⟩
  · -- F
    refine GC.skip ?_
    refine GE.seq ?_
    refine GC.seq ?_
    refine GC.region ?_
    refine GL.val (by exact EvP.r (Ev.move rfl)) rfl rfl ?_
    refine GL.val (by exact EvP.r (Ev.move rfl)) rfl rfl ?_
    refine GL.val (by exact EvP.r (Ev.move rfl)) rfl rfl ?_
    refine GL.val (by exact EvP.r (Ev.len rfl)) rfl rfl ?_
    refine GL.front (A := rdr _ _ _ _ _) (by (repeat (first | exact Pick.head | apply Pick.tail)); fail_if_success (focus skip)) ?_
    refine GL.call rfl rfl (pick_spec _ _ _ _ _ _ (by assumption) _ _ (by omega) (by omega) (by omega) (by omega)) ?_
    rintro _ _ ⟨x15, rfl, x15a, x15b, x15c, rfl⟩
    have hlt := x15b (by omega)
    refine GL.val (by exact (by first | exact Ev.index rfl rfl (by assumption) (by first | exact Imp.refl | exact Imp.nil | ((repeat (first | exact Imp.refl | refine Imp.cons ?_)); fail_if_success (focus skip))) (by first | rfl | exact (Int.toNat_of_nonneg (by omega)).symm) (by omega) (by first | exact Nat.le_refl _ | (simp; done) | omega | (simp; omega)) | exact Ev.index rfl rfl (Rd.of_pick (by (repeat (first | exact Pick.head | apply Pick.tail)); fail_if_success (focus skip))) Imp.refl (by first | rfl | exact (Int.toNat_of_nonneg (by omega)).symm) (by omega) (by first | exact Nat.le_refl _ | (simp; done) | omega | (simp; omega)))) rfl rfl ?_
    refine GL.val (by exact (by first | exact Ev.load_el rfl (by assumption) (by first | exact Imp.refl | exact Imp.nil | ((repeat (first | exact Imp.refl | refine Imp.cons ?_)); fail_if_success (focus skip))) rfl rfl rfl (List.getElem?_eq_getElem (by first | omega | (simp; done) | (simp; omega))) | exact Ev.load_el rfl (Rd.of_pick (by (repeat (first | exact Pick.head | apply Pick.tail)); fail_if_success (focus skip))) Imp.refl rfl rfl rfl (List.getElem?_eq_getElem (by first | omega | (simp; done) | (simp; omega))))) rfl rfl ?_
    refine GL.val (by exact EvP.r (Ev.build rfl (by first | exact bdPart ⟨_, _, _, _, _⟩ | exact bdReader _ _ _ | exact bdPart4 _ _ _ _ | exact bdForm _ _ _ | exact bdForm0 | exact bdGraph0 | exact bdGraph _ _ _ | exact bdNode1 _ | exact bdNode2 _ _ _ _))) rfl rfl ?_
    refine GL.store_varN rfl rfl rfl (by (repeat (first | exact Pick.head | apply Pick.tail)); fail_if_success (focus skip)) (by rfl) (by rfl) (by rfl) ?_
    refine GL.nil ?_
    refine GE.seq ?_
    refine GC.ret ?_
    -- returns, path F
    refine GE.ret_cell (L' := rdr g A c bs (p + 1) :: L) (.inl rfl) rfl rfl rfl (BlkRd.of_pick (by (repeat (first | exact Pick.head | apply Pick.tail)); fail_if_success (focus skip))) (by rfl) (by first | exact Sub.refl | exact Sub.nil | (repeat (first | exact Sub.refl | exact Sub.nil | refine Sub.cons (by (repeat (first | exact Pick.head | apply Pick.tail)); fail_if_success (focus skip)) ?_ | refine Sub.drop ?_))) ?_
    exact ⟨⟨1, -1, -1, -1, _⟩, rfl, .inr ⟨_, List.getElem_mem _, rfl⟩, rfl⟩
theorem Code0.take {w0 : World} {A : Option Addr} {c : Nat} {bs : List Int} (h : Rd w0 [] byteE A c bs) (hb : ∀ x ∈ bs, 0 ≤ x ∧ x ≤ 255) : Code0 w0 A c (bs.take 2000) := ⟨h.take 2000, fun x hx => hb x (List.mem_of_mem_take hx), by simp; omega⟩
theorem newReader_spec (w0 : World) (L : List Asn) (A : Option Addr) (c : Nat) (bs : List Int) (hR : Rd w0 [] byteE A c bs) (hl : bs.length ≤ 2000000) (hc : bs.length ≤ c) :
    Tr Try.prog 41 #[.slice A bs.length c] w0 L (fun v L' => ∃ g, v = .pointer (some ⟨g, 0, none⟩) ∧ L' = rdr g A c (bs.take 2000) 0 :: L) := by
  refine Tr.enter (args := [.slice A bs.length c]) Try.func41 Try.ntmps41 rfl rfl ?_
  refine GC.seq ?_
  refine GC.region ?_
  refine GL.val (by exact EvP.r (Ev.assign rfl)) rfl rfl ?_
  refine GL.nil ?_
  refine GE.seq ?_
  refine GC.seq ?_
  refine GC.seq ?_
  refine GC.region ?_
  refine GL.val (by exact EvP.r (Ev.move rfl)) rfl rfl ?_
  refine GL.val (by exact EvP.r (Ev.len rfl)) rfl rfl ?_
  refine GL.val (by exact EvP.r (Ev.gtr rfl rfl)) rfl rfl ?_
  refine GL.nil ?_
  refine GE.seq ?_
  first | refine GC.if_dec rfl (fun h1 => ?_) (fun h1 => ?_) | refine GC.if_ndec rfl (fun h1 => ?_) (fun h1 => ?_) | refine GC.if_not rfl (fun h1 => ?_) (fun h1 => ?_) | refine GC.if_bool rfl (fun h1 => ?_) (fun h1 => ?_)
  · -- T
    refine GC.region ?_
    refine GL.val (by exact EvP.r (Ev.move rfl)) rfl rfl ?_
    refine GL.val (by exact EvP.r (Ev.cut_to (k := 2000) rfl rfl rfl (by omega))) rfl rfl ?_
    refine GL.val (by exact EvP.r (Ev.assign rfl)) rfl rfl ?_
    refine GL.nil ?_
    refine GE.seq ?_
    refine GC.seq ?_
    refine GC.region ?_
    refine GL.val (by exact EvP.r (Ev.move rfl)) rfl rfl ?_
    refine GL.val (by exact EvP.r (Ev.build rfl (by first | exact bdPart ⟨_, _, _, _, _⟩ | exact bdReader _ _ _ | exact bdPart4 _ _ _ _ | exact bdForm _ _ _ | exact bdForm0 | exact bdGraph0 | exact bdGraph _ _ _ | exact bdNode1 _ | exact bdNode2 _ _ _ _))) rfl rfl ?_
    refine GL.box_agg rfl rfl ?_; intro g10
    refine GL.val (by exact EvP.r (Ev.assign rfl)) rfl rfl ?_
    refine GL.nil ?_
    refine GE.seq ?_
    refine GC.ret ?_
    -- returns, path T
    refine GE.ret_tmp (L' := blk g10 80 [.slice A 2000 c, .int .i64 0] :: L) (.inl rfl) rfl rfl (by first | exact Sub.refl | exact Sub.nil | (repeat (first | exact Sub.refl | exact Sub.nil | refine Sub.cons (by (repeat (first | exact Pick.head | apply Pick.tail)); fail_if_success (focus skip)) ?_ | refine Sub.drop ?_))) ?_
    have e : (bs.take 2000).length = 2000 := by simp; omega
    exact ⟨g10, rfl, by unfold rdr; rw [e]⟩
  · -- F
    refine GC.skip ?_
    refine GE.seq ?_
    refine GC.seq ?_
    refine GC.region ?_
    refine GL.val (by exact EvP.r (Ev.move rfl)) rfl rfl ?_
    refine GL.val (by exact EvP.r (Ev.build rfl (by first | exact bdPart ⟨_, _, _, _, _⟩ | exact bdReader _ _ _ | exact bdPart4 _ _ _ _ | exact bdForm _ _ _ | exact bdForm0 | exact bdGraph0 | exact bdGraph _ _ _ | exact bdNode1 _ | exact bdNode2 _ _ _ _))) rfl rfl ?_
    refine GL.box_agg rfl rfl ?_; intro g10
    refine GL.val (by exact EvP.r (Ev.assign rfl)) rfl rfl ?_
    refine GL.nil ?_
    refine GE.seq ?_
    refine GC.ret ?_
    -- returns, path F
    refine GE.ret_tmp (L' := blk g10 80 [.slice A bs.length c, .int .i64 0] :: L) (.inl rfl) rfl rfl (by first | exact Sub.refl | exact Sub.nil | (repeat (first | exact Sub.refl | exact Sub.nil | refine Sub.cons (by (repeat (first | exact Pick.head | apply Pick.tail)); fail_if_success (focus skip)) ?_ | refine Sub.drop ?_))) ?_
    have e : (bs.take 2000).length = bs.length := by simp; omega
    exact ⟨g10, rfl, by unfold rdr; rw [e]⟩
end SG
