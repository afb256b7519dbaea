/- Contracts: OrderParts of the program; ValidFormula of the reference. -/
import Derived.Test.YtglmfcligilhjaaD11
import Derived.Test.YtglmfcligilhjaaPlain4
namespace SG
open Go Go.RowKit Go.Proofs
set_option linter.unusedVariables false
set_option linter.unusedSimpArgs false
set_option maxRecDepth 100000
def Part.cells (p : Part) : List Value := [.int .i64 p.kind, .int .i64 p.a, .int .i64 p.b, .int .i64 p.c, .int .i64 p.n]
theorem Part.cells_set (p : Part) (x : Nat) (n : Int) (h : x < 5) : p.cells.set x (.int .i64 n) = (p.put x n).cells := by
  match x, h with
  | 0, _ => rfl
  | 1, _ => rfl
  | 2, _ => rfl
  | 3, _ => rfl
  | 4, _ => rfl
theorem ptr3_get (g x : Nat) (h : x < [some ((⟨g, 0, none⟩ : Addr).add 1), some ((⟨g, 0, none⟩ : Addr).add 2), some ((⟨g, 0, none⟩ : Addr).add 3)].length) : [some ((⟨g, 0, none⟩ : Addr).add 1), some ((⟨g, 0, none⟩ : Addr).add 2), some ((⟨g, 0, none⟩ : Addr).add 3)][x] = some ⟨g, x + 1, none⟩ := by
  match x, h with
  | 0, _ => rfl
  | 1, _ => rfl
  | 2, _ => rfl
theorem put_spec (w0 : World) (L : List Asn) (A : Option Addr) (c : Nat) (ps : List Part) (hR : Rd w0 L partE A c ps) (hv : ∀ i (h : i < ps.length), GoodAt ps[i] i) (hl : ps.length ≤ 12) :
    ∀ (f i : Nat) (hi : i < ps.length) (hf : i < f) (X : List Asn) (hX : Imp w0 X L) (out : List Part) (B : Option Addr) (d : Nat) (hb : out.length + 4 ^ f ≤ 20000000) (k : Int) (hk : k = i),
    Tr Try.prog 58 #[.agg #[.slice A ps.length c], .int .i64 k, .slice B out.length d] w0 (row partE B d out :: X)
      (fun v L' => ∃ B' d', v = .slice B' (putL ps f i out).length d' ∧ L' = row partE B' d' (putL ps f i out) :: X) := by
  intro f
  induction f with
  | zero => intro i _ hf; omega
  | succ f ih =>
    intro i hi hf X hX out B d hb k hk
    subst hk
    have hg := hv i hi
    have hRX := hR.imp hX
    have e4 : 4 ^ (f + 1) = 4 * 4 ^ f := by rw [Nat.pow_succ]; omega
    have e1 : 1 ≤ 4 ^ f := Nat.one_le_pow _ _ (by decide)
    have hbl := belowL_short ps[i]
    refine Tr.enter (args := [.agg #[.slice A ps.length c], .int .i64 i, .slice B out.length d]) Try.func58 Try.ntmps58 rfl rfl ?_
    refine GC.seq ?_
    refine GC.region ?_
    refine GL.box_agg rfl rfl ?_; intro g3
    refine GL.val (by exact EvP.r (Ev.assign rfl)) rfl rfl ?_
    refine GL.nil ?_
    refine GE.seq ?_
    refine GC.seq ?_
    refine GC.region ?_
    refine GL.val (by exact EvP.r (Ev.fieldAddr rfl)) rfl rfl ?_
    refine GL.val (by exact (by first | exact Ev.load_blk rfl rfl (BlkRd.of_pick (by (repeat (first | exact Pick.head | apply Pick.tail)); fail_if_success (focus skip))) Imp.refl (by rfl) | exact Ev.load_blk rfl rfl (by assumption) (by first | exact Imp.refl | exact Imp.nil | ((repeat (first | exact Imp.refl | refine Imp.cons ?_)); fail_if_success (focus skip))) (by rfl))) rfl rfl ?_
    refine GL.val (by exact EvP.r (Ev.move rfl)) rfl rfl ?_
    refine GL.val (by exact (by first | exact Ev.index rfl rfl (by assumption) (by first | exact Imp.refl | exact Imp.nil | ((repeat (first | exact Imp.refl | refine Imp.cons ?_)); fail_if_success (focus skip))) (by first | rfl | exact (Int.toNat_of_nonneg (by omega)).symm) (by omega) (by first | exact Nat.le_refl _ | (simp; done) | omega | (simp; omega)) | exact Ev.index rfl rfl (Rd.of_pick (by (repeat (first | exact Pick.head | apply Pick.tail)); fail_if_success (focus skip))) Imp.refl (by first | rfl | exact (Int.toNat_of_nonneg (by omega)).symm) (by omega) (by first | exact Nat.le_refl _ | (simp; done) | omega | (simp; omega)))) rfl rfl ?_
    refine GL.val (by exact (by first | exact Ev.load_el rfl (by assumption) (by first | exact Imp.refl | exact Imp.nil | ((repeat (first | exact Imp.refl | refine Imp.cons ?_)); fail_if_success (focus skip))) rfl rfl rfl (List.getElem?_eq_getElem (by first | omega | (simp; done) | (simp; omega))) | exact Ev.load_el rfl (Rd.of_pick (by (repeat (first | exact Pick.head | apply Pick.tail)); fail_if_success (focus skip))) Imp.refl rfl rfl rfl (List.getElem?_eq_getElem (by first | omega | (simp; done) | (simp; omega))))) rfl rfl ?_
    refine GL.alloc rfl ?_; intro g7
    refine GL.store_varN rfl rfl rfl (by (repeat (first | exact Pick.head | apply Pick.tail)); fail_if_success (focus skip)) (by rfl) (by rfl) (by rfl) ?_
    refine GL.nil ?_
    refine GE.seq ?_
    refine GC.seq ?_
    refine GC.region ?_
    refine GL.val (by exact EvP.r (Ev.fieldAddr rfl)) rfl rfl ?_
    refine GL.val (by exact EvP.r (Ev.fieldAddr rfl)) rfl rfl ?_
    refine GL.val (by exact EvP.r (Ev.fieldAddr rfl)) rfl rfl ?_
    refine GL.buildSlice rfl (by first | exact bsInt0 | exact bsInt1 _ | exact bsInt2 _ _ | exact bsInt3 _ _ _ | exact bsInt4 _ _ _ _ | exact bsInt5 _ _ _ _ _ | exact bsInt6 _ _ _ _ _ _ | exact bsInt7 _ _ _ _ _ _ _ | exact bsInt8 _ _ _ _ _ _ _ _ | exact bsInt9 _ _ _ _ _ _ _ _ _ | exact bsInt10 _ _ _ _ _ _ _ _ _ _ | exact bsPart0 | exact bsPart1 ⟨_, _, _, _, _⟩ | exact bsNode1 ⟨_, _, _, _⟩ | exact bsPtr3 _ _ _) rfl (by decide) rfl ?_; intro g19
    refine GL.val (by exact EvP.r (Ev.assign rfl)) rfl rfl ?_
    refine GL.nil ?_
    refine GE.seq ?_
    refine GC.seq ?_
    refine GC.seq ?_
    refine GC.region ?_
    refine GL.val (by exact EvP.r (Ev.fieldAddr rfl)) rfl rfl ?_
    refine GL.val (by exact (by first | exact Ev.load_blk rfl rfl (BlkRd.of_pick (by (repeat (first | exact Pick.head | apply Pick.tail)); fail_if_success (focus skip))) Imp.refl (by rfl) | exact Ev.load_blk rfl rfl (by assumption) (by first | exact Imp.refl | exact Imp.nil | ((repeat (first | exact Imp.refl | refine Imp.cons ?_)); fail_if_success (focus skip))) (by rfl))) rfl rfl ?_
    refine GL.val (by exact EvP.r (Ev.move rfl)) rfl rfl ?_
    refine GL.val (by exact (by first | exact Ev.index rfl rfl (by assumption) (by first | exact Imp.refl | exact Imp.nil | ((repeat (first | exact Imp.refl | refine Imp.cons ?_)); fail_if_success (focus skip))) (by first | rfl | exact (Int.toNat_of_nonneg (by omega)).symm) (by omega) (by first | exact Nat.le_refl _ | (simp; done) | omega | (simp; omega)) | exact Ev.index rfl rfl (Rd.of_pick (by (repeat (first | exact Pick.head | apply Pick.tail)); fail_if_success (focus skip))) Imp.refl (by first | rfl | exact (Int.toNat_of_nonneg (by omega)).symm) (by omega) (by first | exact Nat.le_refl _ | (simp; done) | omega | (simp; omega)))) rfl rfl ?_
    refine GL.val (by exact (by first | exact Ev.load_el rfl (by assumption) (by first | exact Imp.refl | exact Imp.nil | ((repeat (first | exact Imp.refl | refine Imp.cons ?_)); fail_if_success (focus skip))) rfl rfl rfl (List.getElem?_eq_getElem (by first | omega | (simp; done) | (simp; omega))) | exact Ev.load_el rfl (Rd.of_pick (by (repeat (first | exact Pick.head | apply Pick.tail)); fail_if_success (focus skip))) Imp.refl rfl rfl rfl (List.getElem?_eq_getElem (by first | omega | (simp; done) | (simp; omega))))) rfl rfl ?_
    refine GL.call rfl rfl (below_spec _ _ _) ?_; rintro _ _ ⟨A25, c25, rfl, rfl⟩
    refine GL.val (by exact EvP.r (Ev.len rfl)) rfl rfl ?_
    refine GL.val (by exact EvP.r (Ev.move rfl)) rfl rfl ?_
    refine GL.nil ?_
    refine GE.seq ?_
    refine GC.block ?_
    -- loop 1: carried slots [2, 27]
    refine GC.loopK (α := Nat × Option Addr × Nat) (fun x => x.1 ≤ (belowL ps[i]).length) (fun x => [(2, .slice x.2.1 (putS (putL ps f) ((belowL ps[i]).take x.1) 0 (ps[i], out)).2.length x.2.2), (27, .int .i64 x.1)]) [(3, _), (7, _), (8, _), (25, _), (26, _)] (fun x => row partE x.2.1 x.2.2 (putS (putL ps f) ((belowL ps[i]).take x.1) 0 (ps[i], out)).2 :: blk g7 62 (putS (putL ps f) ((belowL ps[i]).take x.1) 0 (ps[i], out)).1.cells :: row intE A25 c25 (belowL ps[i]) :: row ptrE (some ⟨g19, 0, none⟩) 3 [some ((⟨g7, 0, none⟩ : Addr).add 1), some ((⟨g7, 0, none⟩ : Addr).add 2), some ((⟨g7, 0, none⟩ : Addr).add 3)] :: blk g3 25 [.slice A ps.length c] :: X) (fun x => (belowL ps[i]).length - x.1) (0, B, d) (by repeat (first | exact Keeps.nil | refine Keeps.cons rfl ?_)) (by first | exact Sub.refl | exact Sub.nil | (repeat (first | exact Sub.refl | exact Sub.nil | refine Sub.cons (by (repeat (first | exact Pick.head | apply Pick.tail)); fail_if_success (focus skip)) ?_ | refine Sub.drop ?_))) (Nat.zero_le _) ?_
    rintro ⟨x, B1, d1⟩ hx
    dsimp only at hx ⊢
    have hsb := putS_bound (fun j o => putL_bound ps f j o) ((belowL ps[i]).take x) 0 (ps[i], out)
    have hx3 : ((belowL ps[i]).take x).length * 4 ^ f ≤ 3 * 4 ^ f := Nat.mul_le_mul_right _ (by rw [List.length_take]; omega)
    generalize hs : putS (putL ps f) ((belowL ps[i]).take x) 0 (ps[i], out) = s at *
    dsimp only at hsb
    refine GC.seq ?_
    refine GC.region ?_
    refine GL.val (by exact EvP.r (Ev.lss rfl rfl)) rfl rfl ?_
    refine GL.nil ?_
    refine GE.seq ?_
    refine GC.seq ?_
    first | refine GC.if_dec rfl (fun h1 => ?_) (fun h1 => ?_) | refine GC.if_ndec rfl (fun h1 => ?_) (fun h1 => ?_) | refine GC.if_not rfl (fun h1 => ?_) (fun h1 => ?_) | refine GC.if_bool rfl (fun h1 => ?_) (fun h1 => ?_)
    · -- T
      have hxl : x < (belowL ps[i]).length := by omega
      have hgk := hg.2 _ (List.getElem_mem hxl)
      have hnx : putS (putL ps f) ((belowL ps[i]).take (x + 1)) 0 (ps[i], out) = (s.1.put (x + 1) ((putL ps f ((belowL ps[i])[x]).toNat s.2).length - 1 : Int), putL ps f ((belowL ps[i])[x]).toNat s.2) := by
        rw [List.take_succ_eq_append_getElem hxl, putS_append, hs]
        have : ((belowL ps[i]).take x).length = x := by rw [List.length_take]; omega
        rw [this, Nat.zero_add]
      refine GC.skip ?_
      refine GE.seq ?_
      refine GC.seq ?_
      refine GC.block ?_
      refine GC.seq ?_
      refine GC.region ?_
      refine GL.val (by exact EvP.r (Ev.move rfl)) rfl rfl ?_
      refine GL.val (by exact (by first | exact Ev.index rfl rfl (by assumption) (by first | exact Imp.refl | exact Imp.nil | ((repeat (first | exact Imp.refl | refine Imp.cons ?_)); fail_if_success (focus skip))) (by first | rfl | exact (Int.toNat_of_nonneg (by omega)).symm) (by omega) (by first | exact Nat.le_refl _ | (simp; done) | omega | (simp; omega)) | exact Ev.index rfl rfl (Rd.of_pick (by (repeat (first | exact Pick.head | apply Pick.tail)); fail_if_success (focus skip))) Imp.refl (by first | rfl | exact (Int.toNat_of_nonneg (by omega)).symm) (by omega) (by first | exact Nat.le_refl _ | (simp; done) | omega | (simp; omega)))) rfl rfl ?_
      refine GL.val (by exact (by first | exact Ev.load_el rfl (by assumption) (by first | exact Imp.refl | exact Imp.nil | ((repeat (first | exact Imp.refl | refine Imp.cons ?_)); fail_if_success (focus skip))) rfl rfl rfl (List.getElem?_eq_getElem (by first | omega | (simp; done) | (simp; omega))) | exact Ev.load_el rfl (Rd.of_pick (by (repeat (first | exact Pick.head | apply Pick.tail)); fail_if_success (focus skip))) Imp.refl rfl rfl rfl (List.getElem?_eq_getElem (by first | omega | (simp; done) | (simp; omega))))) rfl rfl ?_
      refine GL.val (by exact EvP.r (Ev.assign rfl)) rfl rfl ?_
      refine GL.val (by exact EvP.r (Ev.assign rfl)) rfl rfl ?_
      refine GL.nil ?_
      refine GE.seq ?_
      refine GC.seq ?_
      refine GC.region ?_
      refine GL.val (by exact (by first | exact Ev.load_blk_all rfl rfl (BlkRd.of_pick (by (repeat (first | exact Pick.head | apply Pick.tail)); fail_if_success (focus skip))) Imp.refl (by rfl) | exact Ev.load_blk_all rfl rfl (by assumption) (by first | exact Imp.refl | exact Imp.nil | ((repeat (first | exact Imp.refl | refine Imp.cons ?_)); fail_if_success (focus skip))) (by rfl))) rfl rfl ?_
      refine GL.val (by exact EvP.r (Ev.move rfl)) rfl rfl ?_
      refine GL.val (by exact EvP.r (Ev.move rfl)) rfl rfl ?_
      refine GL.callP rfl rfl (by (repeat (first | exact Pick.head | apply Pick.tail)); fail_if_success (focus skip)) (ih ((belowL ps[i])[x]).toNat (by omega) (by omega) _ (by repeat (first | exact hX | refine Imp.cons ?_)) s.2 B1 d1 (by omega) _ (by omega)) ?_
      rintro _ _ ⟨B2, d2, rfl, rfl⟩
      have hpb := putL_bound ps f ((belowL ps[i])[x]).toNat s.2
      refine GL.val (by exact EvP.r (Ev.assign rfl)) rfl rfl ?_
      refine GL.nil ?_
      refine GE.seq ?_
      refine GC.region ?_
      refine GL.val (by exact EvP.r (Ev.move rfl)) rfl rfl ?_
      refine GL.val (by exact EvP.r (Ev.move rfl)) rfl rfl ?_
      refine GL.val (by exact (by first | exact Ev.index rfl rfl (by assumption) (by first | exact Imp.refl | exact Imp.nil | ((repeat (first | exact Imp.refl | refine Imp.cons ?_)); fail_if_success (focus skip))) (by first | rfl | exact (Int.toNat_of_nonneg (by omega)).symm) (by omega) (by first | exact Nat.le_refl _ | (simp; done) | omega | (simp; omega)) | exact Ev.index rfl rfl (Rd.of_pick (by (repeat (first | exact Pick.head | apply Pick.tail)); fail_if_success (focus skip))) Imp.refl (by first | rfl | exact (Int.toNat_of_nonneg (by omega)).symm) (by omega) (by first | exact Nat.le_refl _ | (simp; done) | omega | (simp; omega)))) rfl rfl ?_
      refine GL.val (by exact (by first | exact Ev.load_el rfl (by assumption) (by first | exact Imp.refl | exact Imp.nil | ((repeat (first | exact Imp.refl | refine Imp.cons ?_)); fail_if_success (focus skip))) rfl rfl rfl (List.getElem?_eq_getElem (by first | omega | (simp; done) | (simp; omega))) | exact Ev.load_el rfl (Rd.of_pick (by (repeat (first | exact Pick.head | apply Pick.tail)); fail_if_success (focus skip))) Imp.refl rfl rfl rfl (List.getElem?_eq_getElem (by first | omega | (simp; done) | (simp; omega))))) rfl rfl ?_
      rw [ptr3_get]
      refine GL.val (by exact EvP.r (Ev.move rfl)) rfl rfl ?_
      refine GL.val (by exact EvP.r (Ev.len rfl)) rfl rfl ?_
      refine GL.val (by exact EvP.r (Ev.sub rfl rfl (by omega))) rfl rfl ?_
      refine GL.val (by exact EvP.r (Ev.nilCheck rfl)) rfl rfl ?_
      refine GL.store_blk (o := x + 1) rfl rfl rfl (by (repeat (first | exact Pick.head | apply Pick.tail)); fail_if_success (focus skip)) (by simp [Part.cells]; omega) rfl rfl ?_
      refine GL.nil ?_
      refine GE.block ?_
      refine GE.seq ?_
      refine GC.region ?_
      refine GL.val (by exact EvP.r (Ev.add rfl rfl (by omega))) rfl rfl ?_
      refine GL.val (by exact EvP.r (Ev.move rfl)) rfl rfl ?_
      refine GL.nil ?_
      -- round of loop 1, path T
      rw [Part.cells_set _ _ _ (by omega)]
      refine GE.round (x + 1, B2, d2) (by dsimp only; omega) (by dsimp only; omega) (by dsimp only; rw [hnx]; repeat (first | exact Keeps.nil | refine Keeps.cons rfl ?_)) (by dsimp only; rw [hnx]; exact (by first | exact Sub.refl | exact Sub.nil | (repeat (first | exact Sub.refl | exact Sub.nil | refine Sub.cons (by (repeat (first | exact Pick.head | apply Pick.tail)); fail_if_success (focus skip)) ?_ | refine Sub.drop ?_))))
    · -- F
      have hxe : x = (belowL ps[i]).length := by omega
      rw [hxe, List.take_length] at hs
      refine GC.exit ?_
      refine GE.seq_exit ?_
      refine GE.loop_exit ?_
      refine GE.block_exit ?_
      refine GE.seq ?_
      refine GC.seq ?_
      refine GC.region ?_
      refine GL.val (by exact EvP.r (Ev.move rfl)) rfl rfl ?_
      refine GL.val (by exact (by first | exact Ev.load_blk_all rfl rfl (BlkRd.of_pick (by (repeat (first | exact Pick.head | apply Pick.tail)); fail_if_success (focus skip))) Imp.refl (by rfl) | exact Ev.load_blk_all rfl rfl (by assumption) (by first | exact Imp.refl | exact Imp.nil | ((repeat (first | exact Imp.refl | refine Imp.cons ?_)); fail_if_success (focus skip))) (by rfl))) rfl rfl ?_
      refine GL.buildSlice rfl (by first | exact bsInt0 | exact bsInt1 _ | exact bsInt2 _ _ | exact bsInt3 _ _ _ | exact bsInt4 _ _ _ _ | exact bsInt5 _ _ _ _ _ | exact bsInt6 _ _ _ _ _ _ | exact bsInt7 _ _ _ _ _ _ _ | exact bsInt8 _ _ _ _ _ _ _ _ | exact bsInt9 _ _ _ _ _ _ _ _ _ | exact bsInt10 _ _ _ _ _ _ _ _ _ _ | exact bsPart0 | exact bsPart1 ⟨_, _, _, _, _⟩ | exact bsNode1 ⟨_, _, _, _⟩ | exact bsPtr3 _ _ _) rfl (by decide) rfl ?_; intro g47
      first | (refine GL.append rfl rfl (by (repeat (first | exact Pick.head | apply Pick.tail)); fail_if_success (focus skip)) (by assumption) (by first | exact Imp.refl | exact Imp.nil | ((repeat (first | exact Imp.refl | refine Imp.cons ?_)); fail_if_success (focus skip))) (by first | rfl | (simp; done) | (simp; omega)) (by first | rfl | (simp; done) | (simp; omega)) (by first | omega | (simp; omega)) (by first | omega | (simp; omega)) rfl ?_; intro A48 c48) | (refine GL.append rfl rfl (by (repeat (first | exact Pick.head | apply Pick.tail)); fail_if_success (focus skip)) (Rd.of_pick (by (repeat (first | exact Pick.head | apply Pick.tail)); fail_if_success (focus skip))) Imp.refl (by first | rfl | (simp; done) | (simp; omega)) (by first | rfl | (simp; done) | (simp; omega)) (by first | omega | (simp; omega)) (by first | omega | (simp; omega)) rfl ?_; intro A48 c48)
      refine GL.val (by exact EvP.r (Ev.assign rfl)) rfl rfl ?_
      refine GL.nil ?_
      refine GE.seq ?_
      refine GC.ret ?_
      -- returns, path F
      refine GE.ret_tmp (L' := row partE A48 c48 (s.2 ++ [s.1]) :: X) (.inl rfl) rfl rfl (by first | exact Sub.refl | exact Sub.nil | (repeat (first | exact Sub.refl | exact Sub.nil | refine Sub.cons (by (repeat (first | exact Pick.head | apply Pick.tail)); fail_if_success (focus skip)) ?_ | refine Sub.drop ?_))) ?_
      rw [putL_some hi, hs]
      exact ⟨A48, c48, rfl, rfl⟩
theorem iOrderParts_spec (w0 : World) (L : List Asn) (A : Option Addr) (c : Nat) (ps : List Part) (hR : Rd w0 L partE A c ps) :
    Tr Try.prog 18 #[.agg #[.slice A ps.length c]] w0 L (fun v L' => ∃ B d, v = .agg #[.slice B (ordL ps).length d] ∧ L' = row partE B d (ordL ps) :: L) := by
  refine Tr.enter (args := [.agg #[.slice A ps.length c]]) Try.func18 Try.ntmps18 rfl rfl ?_
  refine GC.seq ?_
  refine GC.region ?_
  refine GL.box_agg rfl rfl ?_; intro g1
  refine GL.alloc rfl ?_; intro g2
  refine GL.nil ?_
  refine GE.seq ?_
  refine GC.seq ?_
  refine GC.seq ?_
  refine GC.region ?_
  refine GL.val (by exact (by first | exact Ev.load_blk_all rfl rfl (BlkRd.of_pick (by (repeat (first | exact Pick.head | apply Pick.tail)); fail_if_success (focus skip))) Imp.refl (by rfl) | exact Ev.load_blk_all rfl rfl (by assumption) (by first | exact Imp.refl | exact Imp.nil | ((repeat (first | exact Imp.refl | refine Imp.cons ?_)); fail_if_success (focus skip))) (by rfl))) rfl rfl ?_
  refine GL.callF rfl rfl (ValidFormula_spec _ _ _ _ _ (by first | assumption | exact Rd.of_pick (by (repeat (first | exact Pick.head | apply Pick.tail)); fail_if_success (focus skip)) | exact Rd.imp (by assumption) (by first | exact Imp.refl | exact Imp.nil | ((repeat (first | exact Imp.refl | refine Imp.cons ?_)); fail_if_success (focus skip))))) ?_
  refine GL.val (by exact EvP.r (Ev.not rfl)) rfl rfl ?_
  refine GL.nil ?_
  refine GE.seq ?_
  first | refine GC.if_dec rfl (fun h1 => ?_) (fun h1 => ?_) | refine GC.if_ndec rfl (fun h1 => ?_) (fun h1 => ?_) | refine GC.if_not rfl (fun h1 => ?_) (fun h1 => ?_) | refine GC.if_bool rfl (fun h1 => ?_) (fun h1 => ?_)
  · -- T
    refine GC.seq ?_
    refine GC.region ?_
    refine GL.val (by exact EvP.r (Ev.build rfl (by first | exact bdPart ⟨_, _, _, _, _⟩ | exact bdReader _ _ _ | exact bdPart4 _ _ _ _ | exact bdForm _ _ _ | exact bdForm0 | exact bdGraph0 | exact bdGraph _ _ _ | exact bdNode1 _ | exact bdNode2 _ _ _ _))) rfl rfl ?_
    refine GL.store_varN rfl rfl rfl (by (repeat (first | exact Pick.head | apply Pick.tail)); fail_if_success (focus skip)) (by rfl) (by rfl) (by rfl) ?_
    refine GL.nil ?_
    refine GE.seq ?_
    refine GC.ret ?_
    refine GE.seq_ret ?_
    -- returns, path T
    refine GE.state (fun _ hs => hs.empty partE none) ?_
    refine GE.ret_cell (L' := row partE none 0 [] :: L) (.inl rfl) rfl rfl rfl (BlkRd.of_pick (by (repeat (first | exact Pick.head | apply Pick.tail)); fail_if_success (focus skip))) (by rfl) (by first | exact Sub.refl | exact Sub.nil | (repeat (first | exact Sub.refl | exact Sub.nil | refine Sub.cons (by (repeat (first | exact Pick.head | apply Pick.tail)); fail_if_success (focus skip)) ?_ | refine Sub.drop ?_))) ?_
    rw [show ordL ps = [] by simp [ordL, h1]]
    exact ⟨none, 0, rfl, rfl⟩
  · -- F
    have hv := validF_iff.1 h1
    have hl1 := hv.1
    have hl2 := hv.2.1
    have hpow : ([] : List Part).length + 4 ^ ps.length ≤ 20000000 := by
      have := Nat.pow_le_pow_right (show 0 < 4 by decide) hl2
      simp only [List.length_nil]; omega
    have eo : ordL ps = putL ps ps.length (ps.length - 1) [] := by simp [ordL, h1]
    refine GC.skip ?_
    refine GE.seq ?_
    refine GC.seq ?_
    refine GC.region_any #[false, false, true, true, true, false, true] mixed ?_
    refine GA.read 0 #[false, true, true, false, false, false, false] rfl (by exact (by first | exact Ev.load_blk_all rfl rfl (BlkRd.of_pick (by (repeat (first | exact Pick.head | apply Pick.tail)); fail_if_success (focus skip))) Imp.refl (by rfl) | exact Ev.load_blk_all rfl rfl (by assumption) (by first | exact Imp.refl | exact Imp.nil | ((repeat (first | exact Imp.refl | refine Imp.cons ?_)); fail_if_success (focus skip))) (by rfl))) rfl rfl (by kernel_rfl) rfl (by kernel_rfl) (by kernel_rfl) (fun _ _ _ h => h) ?_
    refine GA.read 1 #[true, false, false, false, false, false, false] rfl (by exact (by first | exact Ev.load_blk_all rfl rfl (BlkRd.of_pick (by (repeat (first | exact Pick.head | apply Pick.tail)); fail_if_success (focus skip))) Imp.refl (by rfl) | exact Ev.load_blk_all rfl rfl (by assumption) (by first | exact Imp.refl | exact Imp.nil | ((repeat (first | exact Imp.refl | refine Imp.cons ?_)); fail_if_success (focus skip))) (by rfl))) rfl rfl (by kernel_rfl) rfl (by kernel_rfl) (by kernel_rfl) (fun _ _ _ h => h) ?_
    refine GA.branch (rs := [2]) (JOk.live (by exact (by first | exact Ev.load_blk_all rfl rfl (BlkRd.of_pick (by (repeat (first | exact Pick.head | apply Pick.tail)); fail_if_success (focus skip))) Imp.refl (by rfl) | exact Ev.load_blk_all rfl rfl (by assumption) (by first | exact Imp.refl | exact Imp.nil | ((repeat (first | exact Imp.refl | refine Imp.cons ?_)); fail_if_success (focus skip))) (by rfl))) (JOk.live (by exact (by first | exact Ev.load_blk_all rfl rfl (BlkRd.of_pick (by (repeat (first | exact Pick.head | apply Pick.tail)); fail_if_success (focus skip))) Imp.refl (by rfl) | exact Ev.load_blk_all rfl rfl (by assumption) (by first | exact Imp.refl | exact Imp.nil | ((repeat (first | exact Imp.refl | refine Imp.cons ?_)); fail_if_success (focus skip))) (by rfl))) JOk.nil)) (by kernel_rfl) (by simp) ?_
    refine GAs.cons rfl ?_ ?_
    · -- F op 2
      refine GL.callF rfl rfl (last_spec _ _ _ _ _ (by omega)) ?_
      refine GL.nil ?_
      refine GE.any ?_
      refine GA.branch (rs := [3]) (JOk.dead (by kernel_rfl) (JOk.live (by exact (by first | exact Ev.load_blk_all rfl rfl (BlkRd.of_pick (by (repeat (first | exact Pick.head | apply Pick.tail)); fail_if_success (focus skip))) Imp.refl (by rfl) | exact Ev.load_blk_all rfl rfl (by assumption) (by first | exact Imp.refl | exact Imp.nil | ((repeat (first | exact Imp.refl | refine Imp.cons ?_)); fail_if_success (focus skip))) (by rfl))) JOk.nil)) (by kernel_rfl) (by simp) ?_
      refine GAs.cons rfl ?_ ?_
      · -- F op 3
        refine GL.row0 partE none ?_
        refine GL.callP rfl rfl (by (repeat (first | exact Pick.head | apply Pick.tail)); fail_if_success (focus skip)) (put_spec w0 _ A c ps (hR.imp (by first | exact Imp.refl | exact Imp.nil | ((repeat (first | exact Imp.refl | refine Imp.cons ?_)); fail_if_success (focus skip)))) hv.2.2.1 hl2 ps.length (ps.length - 1) (by omega) (by omega) _ Imp.refl [] none 0 hpow _ (by omega)) ?_
        rintro _ _ ⟨B, d, rfl, rfl⟩
        rw [← eo]
        refine GL.row_cap (E := partE) (A := B) (by (repeat (first | exact Pick.head | apply Pick.tail)); fail_if_success (focus skip)) fun hc1 hc2 => ?_
        refine GL.nil ?_
        refine GE.any ?_
        refine GA.branch (rs := [4]) (JOk.dead (by kernel_rfl) (JOk.dead (by kernel_rfl) JOk.nil)) (by kernel_rfl) (by simp) ?_
        refine GAs.cons rfl ?_ ?_
        · -- F op 4
          refine GL.callF rfl rfl (ClipPart_spec _ _ _ _ _ (by first | omega | (simp; done) | (simp; omega))) ?_
          refine GL.row_clip (E := partE) (A := B) (by (repeat (first | exact Pick.head | apply Pick.tail)); fail_if_success (focus skip)) ?_
          refine GL.nil ?_
          refine GE.any ?_
          refine GA.take 5 #[true, true, true, true, true, false, false] rfl (by exact Ev.build rfl (by first | exact bdPart ⟨_, _, _, _, _⟩ | exact bdReader _ _ _ | exact bdPart4 _ _ _ _ | exact bdForm _ _ _ | exact bdForm0 | exact bdGraph0 | exact bdGraph _ _ _ | exact bdNode1 _ | exact bdNode2 _ _ _ _)) rfl rfl (by kernel_rfl) rfl (by kernel_rfl) (by kernel_rfl) (fun _ _ _ h => h) ?_
          refine GA.branch (rs := [6]) (JOk.dead (by kernel_rfl) (JOk.dead (by kernel_rfl) JOk.nil)) (by kernel_rfl) (by simp) ?_
          refine GAs.cons rfl ?_ ?_
          · -- F op 6
            refine GL.store_varN rfl rfl rfl (by (repeat (first | exact Pick.head | apply Pick.tail)); fail_if_success (focus skip)) (by rfl) (by rfl) (by rfl) ?_
            refine GL.nil ?_
            refine GE.any ?_
            refine GA.done (JOk.dead (by kernel_rfl) (JOk.dead (by kernel_rfl) JOk.nil)) (by kernel_rfl) ?_
            refine GE.seq ?_
            refine GC.ret ?_
            -- returns, path F
            refine GE.ret_cell (L' := row partE B (ordL ps).length (ordL ps) :: L) (.inl rfl) rfl rfl rfl (BlkRd.of_pick (by (repeat (first | exact Pick.head | apply Pick.tail)); fail_if_success (focus skip))) (by rfl) (by first | exact Sub.refl | exact Sub.nil | (repeat (first | exact Sub.refl | exact Sub.nil | refine Sub.cons (by (repeat (first | exact Pick.head | apply Pick.tail)); fail_if_success (focus skip)) ?_ | refine Sub.drop ?_))) ?_
            exact ⟨B, _, rfl, rfl⟩
          exact GAs.nil
        exact GAs.nil
      exact GAs.nil
    exact GAs.nil
end SG
