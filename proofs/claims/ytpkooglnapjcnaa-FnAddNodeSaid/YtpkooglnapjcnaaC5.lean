/- Contracts: one, readPartOf, newReader. -/
import Derived.Test.YtpkooglnapjcnaaC4
namespace SG
open Go Go.RowKit Go.Proofs
set_option linter.unusedVariables false
set_option linter.unusedSimpArgs false
set_option maxRecDepth 100000

theorem one_spec (w0 : World) (L : List Asn) (g : Nat) (A : Option Addr) (c : Nat) (bs : List Int) (hC : Code0 w0 A c bs) (p : Int) (p0 : 0 ≤ p) (p1 : p ≤ 1000000) (B : Option Addr) (d : Nat) (xs : List Int) (hX : Rd w0 L intE B d xs) (k : Nat) (hk : k = xs.length) (x0 : 1 ≤ xs.length) (x1 : xs.length ≤ 1000) :
    Tr Try.prog 60 #[.pointer (some ⟨g, 0, none⟩), .slice B k d] w0 (rdr g A c bs p :: L) (fun v L' => ∃ x : Int, v = .int .i64 x ∧ x ∈ xs ∧ L' = rdr g A c bs (p + 1) :: L) := by
  subst hk
  refine Tr.enter (args := [.pointer (some ⟨g, 0, none⟩), .slice B xs.length d]) Try.func60 Try.ntmps60 rfl rfl ?_
  refine GC.seq ?_
  refine GC.region ?_
  refine GL.v Wag ?_
  refine GL.nil ?_
  refine GE.seq ?_
  refine GC.seq ?_
  refine GC.region ?_
  refine GL.v Wmv ?_
  refine GL.v Wmv ?_
  refine GL.v Wmv ?_
  refine GL.v Wln ?_
  refine GL.front (A := rdr _ _ _ _ _) Wpk ?_
  refine GL.call rfl rfl (pick_spec _ _ _ _ _ _ (by assumption) _ _ (by omega) (by omega) (by omega) (by omega)) ?_
  rintro _ _ ⟨x9, rfl, x9a, x9b, x9c, rfl⟩
  have hlt := x9b (by omega)
  refine GL.v Wix ?_
  refine GL.v Wle ?_
  refine GL.v Wag ?_
  refine GL.nil ?_
  refine GE.seq ?_
  refine GC.ret ?_
  -- returns, path 
  refine GE.ret_tmp (L' := rdr g A c bs (p + 1) :: L) (.inl rfl) rfl rfl Wsb ?_
  exact ⟨_, rfl, List.getElem_mem _, rfl⟩
def RP (xs : List Int) (q : Part) : Prop := (∃ k : Int, 0 ≤ k ∧ k < 10 ∧ q = numPart k) ∨ ∃ n ∈ xs, q = ⟨1, -1, -1, -1, n⟩
theorem readPartOf_spec (w0 : World) (L : List Asn) (g : Nat) (A : Option Addr) (c : Nat) (bs : List Int) (hC : Code0 w0 A c bs) (p : Int) (p0 : 0 ≤ p) (p1 : p ≤ 1000000) (B : Option Addr) (d : Nat) (xs : List Int) (hX : Rd w0 L intE B d xs) (x1 : xs.length ≤ 1000) :
    Tr Try.prog 126 #[.pointer (some ⟨g, 0, none⟩), .slice B xs.length d] w0 (rdr g A c bs p :: L) (fun v L' => ∃ q : Part, v = q.val ∧ RP xs q ∧ L' = rdr g A c bs (p + 1) :: L) := by
  refine Tr.enter (args := [.pointer (some ⟨g, 0, none⟩), .slice B xs.length d]) Try.func126 Try.ntmps126 rfl rfl ?_
  refine GC.seq ?_
  refine GC.region ?_
  refine GL.alloc rfl ?_; intro g4
  refine GL.nil ?_
  refine GE.seq ?_
  refine GC.seq ?_
  refine GC.seq ?_
  refine GC.region ?_
  refine GL.v Wmv ?_
  refine GL.v Wln ?_
  refine GL.v Weq ?_
  refine GL.nil ?_
  refine GE.seq ?_
  refine GC.ifs (fun h1 => ?_) (fun h1 => ?_)
  · -- T
    refine GC.seq ?_
    refine GC.region ?_
    refine GL.v Wmv ?_
    refine GL.front (A := rdr _ _ _ _ _) Wpk ?_
    refine GL.call rfl rfl (pick_spec _ _ _ _ _ _ (by assumption) _ _ (by omega) (by omega) (by omega) (by omega)) ?_
    rintro _ _ ⟨x9, rfl, x9a, x9b, x9c, rfl⟩
    refine GL.callF rfl rfl (numberPart_spec _ _ _) ?_
    refine GL.store_varN rfl rfl rfl Wpk (by rfl) (by rfl) (by rfl) ?_
    refine GL.nil ?_
    refine GE.seq ?_
    refine GC.ret ?_
    refine GE.seq_ret ?_
    -- returns, path T
    refine GE.ret_cell (L' := rdr g A c bs (p + 1) :: L) (.inl rfl) rfl rfl rfl (BlkRd.of_pick Wpk) (by rfl) Wsb ?_
    exact ⟨numPart x9, rfl, .inl ⟨x9, by omega, x9b (by omega), rfl⟩, rfl⟩
  · -- F
    refine GC.skip ?_
    refine GE.seq ?_
    refine GC.seq ?_
    refine GC.region ?_
    refine GL.v Wmv ?_
    refine GL.v Wmv ?_
    refine GL.v Wmv ?_
    refine GL.v Wln ?_
    refine GL.front (A := rdr _ _ _ _ _) Wpk ?_
    refine GL.call rfl rfl (pick_spec _ _ _ _ _ _ (by assumption) _ _ (by omega) (by omega) (by omega) (by omega)) ?_
    rintro _ _ ⟨x15, rfl, x15a, x15b, x15c, rfl⟩
    have hlt := x15b (by omega)
    refine GL.v Wix ?_
    refine GL.v Wle ?_
    refine GL.v (by exact EvP.r (Ev.build rfl (by first | exact bdPart ⟨_, _, _, _, _⟩ | exact bdReader _ _ _ | exact bdPart4 _ _ _ _ | exact bdForm _ _ _ | exact bdForm0 | exact bdGraph0 | exact bdGraph _ _ _ | exact bdNode1 _ | exact bdNode2 _ _ _ _ | exact bdHist0 | exact bdHist1 _ _ _ | exact bdHist2 _ _ _ _))) ?_
    refine GL.store_varN rfl rfl rfl Wpk (by rfl) (by rfl) (by rfl) ?_
    refine GL.nil ?_
    refine GE.seq ?_
    refine GC.ret ?_
    -- returns, path F
    refine GE.ret_cell (L' := rdr g A c bs (p + 1) :: L) (.inl rfl) rfl rfl rfl (BlkRd.of_pick Wpk) (by rfl) Wsb ?_
    exact ⟨⟨1, -1, -1, -1, _⟩, rfl, .inr ⟨_, List.getElem_mem _, rfl⟩, rfl⟩
theorem Code0.take {w0 : World} {A : Option Addr} {c : Nat} {bs : List Int} (h : Rd w0 [] byteE A c bs) (hb : ∀ x ∈ bs, 0 ≤ x ∧ x ≤ 255) : Code0 w0 A c (bs.take 2000) := ⟨h.take 2000, fun x hx => hb x (List.mem_of_mem_take hx), by simp; omega⟩
theorem newReader_spec (w0 : World) (L : List Asn) (A : Option Addr) (c : Nat) (bs : List Int) (hR : Rd w0 [] byteE A c bs) (hl : bs.length ≤ 2000000) (hc : bs.length ≤ c) :
    Tr Try.prog 58 #[.slice A bs.length c] w0 L (fun v L' => ∃ g, v = .pointer (some ⟨g, 0, none⟩) ∧ L' = rdr g A c (bs.take 2000) 0 :: L) := by
  refine Tr.enter (args := [.slice A bs.length c]) Try.func58 Try.ntmps58 rfl rfl ?_
  refine GC.seq ?_
  refine GC.region ?_
  refine GL.v Wag ?_
  refine GL.nil ?_
  refine GE.seq ?_
  refine GC.seq ?_
  refine GC.seq ?_
  refine GC.region ?_
  refine GL.v Wmv ?_
  refine GL.v Wln ?_
  refine GL.v Wgt ?_
  refine GL.nil ?_
  refine GE.seq ?_
  refine GC.ifs (fun h1 => ?_) (fun h1 => ?_)
  · -- T
    refine GC.region ?_
    refine GL.v Wmv ?_
    refine GL.v (by exact EvP.r (Ev.cut_to (k := 2000) rfl rfl rfl (by omega))) ?_
    refine GL.v Wag ?_
    refine GL.nil ?_
    refine GE.seq ?_
    refine GC.seq ?_
    refine GC.region ?_
    refine GL.v Wmv ?_
    refine GL.v (by exact EvP.r (Ev.build rfl (by first | exact bdPart ⟨_, _, _, _, _⟩ | exact bdReader _ _ _ | exact bdPart4 _ _ _ _ | exact bdForm _ _ _ | exact bdForm0 | exact bdGraph0 | exact bdGraph _ _ _ | exact bdNode1 _ | exact bdNode2 _ _ _ _ | exact bdHist0 | exact bdHist1 _ _ _ | exact bdHist2 _ _ _ _))) ?_
    refine GL.box_agg rfl rfl ?_; intro g10
    refine GL.v Wag ?_
    refine GL.nil ?_
    refine GE.seq ?_
    refine GC.ret ?_
    -- returns, path T
    refine GE.ret_tmp (L' := blk g10 133 [.slice A 2000 c, .int .i64 0] :: L) (.inl rfl) rfl rfl Wsb ?_
    have e : (bs.take 2000).length = 2000 := by simp; omega
    exact ⟨g10, rfl, by unfold rdr; rw [e]⟩
  · -- F
    refine GC.skip ?_
    refine GE.seq ?_
    refine GC.seq ?_
    refine GC.region ?_
    refine GL.v Wmv ?_
    refine GL.v (by exact EvP.r (Ev.build rfl (by first | exact bdPart ⟨_, _, _, _, _⟩ | exact bdReader _ _ _ | exact bdPart4 _ _ _ _ | exact bdForm _ _ _ | exact bdForm0 | exact bdGraph0 | exact bdGraph _ _ _ | exact bdNode1 _ | exact bdNode2 _ _ _ _ | exact bdHist0 | exact bdHist1 _ _ _ | exact bdHist2 _ _ _ _))) ?_
    refine GL.box_agg rfl rfl ?_; intro g10
    refine GL.v Wag ?_
    refine GL.nil ?_
    refine GE.seq ?_
    refine GC.ret ?_
    -- returns, path F
    refine GE.ret_tmp (L' := blk g10 133 [.slice A bs.length c, .int .i64 0] :: L) (.inl rfl) rfl rfl Wsb ?_
    have e : (bs.take 2000).length = bs.length := by simp; omega
    exact ⟨g10, rfl, by unfold rdr; rw [e]⟩
end SG
