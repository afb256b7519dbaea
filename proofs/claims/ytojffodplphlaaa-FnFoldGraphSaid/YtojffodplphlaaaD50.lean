/- Contracts: folded formulas, of the reference. -/
import Derived.Test.YtojffodplphlaaaD4
import Derived.Test.YtojffodplphlaaaD12
import Derived.Test.YtojffodplphlaaaD16
import Derived.Test.YtojffodplphlaaaD17
import Derived.Test.YtojffodplphlaaaPlain17
namespace SG
open Go Go.RowKit Go.Proofs
set_option linter.unusedVariables false
set_option linter.unusedSimpArgs false
set_option maxRecDepth 100000
theorem bsForm0 : BsOk Try.prog 129 0 [] formE [] := ⟨fun w => by kernel_rfl⟩
theorem bsForm1 (m : FoM) : BsOk Try.prog 129 1 [(0, .agg #[.slice m.a m.parts.length m.c])] formE [m] := ⟨fun w => by kernel_rfl⟩
/-! lists of formulas -/
def FoM.rowA (m : FoM) : Asn := row partE m.a m.c m.parts
def fo (fs : List FoM) : List (List Part) := fs.map FoM.parts
@[simp] theorem fo_length (fs : List FoM) : (fo fs).length = fs.length := by simp [fo]
theorem fo_get {fs : List FoM} {i : Nat} (h : i < (fo fs).length) : (fo fs)[i] = (fs[i]'(by simpa using h)).parts := by simp [fo]
def formsA (fs : List FoM) : Asn := Sat (fs.map FoM.rowA)
theorem GC.forms0 {P : Program} {Q : Exit → Act → World → Prop} {w0 : World} {N : Nat} {fs : List Kf} {F : Env} {L : List Asn} {c : Code} (h : GC P Q w0 N fs c F (formsA [] :: L)) : GC P Q w0 N fs c F L := GC.state (fun _ hs => hs.sat0) h
theorem St.forms_snoc {w0 w : World} {L : List Asn} {ls : List FoM} {m : FoM} (h : St w0 w (m.rowA :: formsA ls :: L)) : St w0 w (formsA (ls ++ [m]) :: L) := by
  have := h.sat_snoc
  unfold formsA
  rw [List.map_append]
  exact this
theorem GE.forms_snoc {P : Program} {Q : Exit → Act → World → Prop} {w0 : World} {N : Nat} {fs : List Kf} {F : Env} {L L1 L2 : List Asn} {e : Exit} {ls : List FoM} (m : FoM) (p : Pick L m.rowA L1) (q : Pick L1 (formsA ls) L2) (h : GE P Q w0 N fs e F (formsA (ls ++ [m]) :: L2)) : GE P Q w0 N fs e F L :=
  GE.state (fun w hs => St.forms_snoc (St.pick (A := formsA ls) (L := m.rowA :: L1) (L' := m.rowA :: L2) (hs.pick p) (.tail q) |>.pick (.tail .head))) h
theorem Rd.of_forms {w0 : World} {L L1 : List Asn} {ls : List FoM} (p : Pick L (formsA ls) L1) {m : FoM} (hm : m ∈ ls) : Rd w0 L partE m.a m.c m.parts := ⟨fun w hs => by
  have h := (hs.pick p).flat
  obtain ⟨L2, p2⟩ := Pick.mem (List.mem_map_of_mem (f := FoM.rowA) hm)
  exact (Rd.of_pick (p2.app_left (X := L1))).go w h⟩
theorem St.forms_out {w0 w : World} {L L1 : List Asn} {ms : List FoM} {i : Nat} (hi : i < ms.length) (q : Pick L (formsA ms) L1) (hs : St w0 w L) : St w0 w (row partE ms[i].a ms[i].c ms[i].parts :: L1) := by
  have h1 := (hs.pick q).flat
  have e : ms = ms.take i ++ ms[i] :: ms.drop (i + 1) := by rw [List.getElem_cons_drop, List.take_append_drop]
  rw [e, List.map_append, List.map_cons] at h1
  have p1 : Pick (((ms.take i).map FoM.rowA ++ ms[i].rowA :: (ms.drop (i + 1)).map FoM.rowA) ++ L1) ms[i].rowA (((ms.take i).map FoM.rowA ++ (ms.drop (i + 1)).map FoM.rowA) ++ L1) := Pick.app_left (Pick.app_right .head _)
  have h2 := h1.pick p1
  have h3 : St w0 w (((ms.take i ++ ms.drop (i + 1)).map FoM.rowA) ++ (ms[i].rowA :: L1)) := by
    rw [List.map_append]
    exact h2.back (Pick.app_right .head _)
  have h4 : St w0 w (formsA (ms.take i ++ ms.drop (i + 1)) :: ms[i].rowA :: L1) := St.fold h3
  exact h4.drop
theorem moved_spec (w0 : World) (L : List Asn) (p : Part) (n : Nat) (hn : n ≤ 100000000) (ha : p.a ≤ 100000000) (hb : p.b ≤ 100000000) (hc : p.c ≤ 100000000) :
    Tr Try.prog 149 #[p.val, .int .i64 n] w0 L (fun v L' => v = (shiftP n p).val ∧ L' = L) := by
  refine Tr.enter (args := [p.val, .int .i64 n]) Try.func149 Try.ntmps149 rfl rfl ?_
  refine GC.seq ?_
  refine GC.region ?_
  refine GL.box_agg rfl rfl ?_; intro g2
  refine GL.alloc rfl ?_; intro g4
  refine GL.nil ?_
  refine GE.seq ?_
  refine GC.seq ?_
  refine GC.seq ?_
  refine GC.region ?_
  refine GL.v Wfa ?_
  refine GL.v Wlb ?_
  refine GL.v Wgq ?_
  refine GL.nil ?_
  refine GE.seq ?_
  refine GC.ifs (fun h1 => ?_) (fun h1 => ?_)
  · -- T
    refine GC.region ?_
    refine GL.v Wfa ?_
    refine GL.v Wlb ?_
    refine GL.v Wmv ?_
    refine GL.v Wad ?_
    refine GL.v Wfa ?_
    refine GL.store_blk rfl rfl rfl Wpk (Nat.lt_of_lt_of_le (Nat.le_of_ble_eq_true (by rfl)) (Nat.le_refl _)) (by rfl) (by rfl) ?_
    refine GL.nil ?_
    refine GE.seq ?_
    refine GC.seq ?_
    refine GC.seq ?_
    refine GC.region ?_
    refine GL.v Wfa ?_
    refine GL.v Wlb ?_
    refine GL.v Wgq ?_
    refine GL.nil ?_
    refine GE.seq ?_
    refine GC.ifs (fun h2 => ?_) (fun h2 => ?_)
    · -- TT
      refine GC.region ?_
      refine GL.v Wfa ?_
      refine GL.v Wlb ?_
      refine GL.v Wmv ?_
      refine GL.v Wad ?_
      refine GL.v Wfa ?_
      refine GL.store_blk rfl rfl rfl Wpk (Nat.lt_of_lt_of_le (Nat.le_of_ble_eq_true (by rfl)) (Nat.le_refl _)) (by rfl) (by rfl) ?_
      refine GL.nil ?_
      refine GE.seq ?_
      refine GC.seq ?_
      refine GC.seq ?_
      refine GC.region ?_
      refine GL.v Wfa ?_
      refine GL.v Wlb ?_
      refine GL.v Wgq ?_
      refine GL.nil ?_
      refine GE.seq ?_
      refine GC.ifs (fun h3 => ?_) (fun h3 => ?_)
      · -- TTT
        refine GC.region ?_
        refine GL.v Wfa ?_
        refine GL.v Wlb ?_
        refine GL.v Wmv ?_
        refine GL.v Wad ?_
        refine GL.v Wfa ?_
        refine GL.store_blk rfl rfl rfl Wpk (Nat.lt_of_lt_of_le (Nat.le_of_ble_eq_true (by rfl)) (Nat.le_refl _)) (by rfl) (by rfl) ?_
        refine GL.nil ?_
        refine GE.seq ?_
        refine GC.seq ?_
        refine GC.region ?_
        refine GL.v Wlba ?_
        refine GL.store_varN rfl rfl rfl Wpk (by rfl) (by rfl) (by rfl) ?_
        refine GL.nil ?_
        refine GE.seq ?_
        refine GC.ret ?_
        -- returns, path TTT
        refine GE.ret_cell (L' := L) (.inl rfl) rfl rfl rfl (BlkRd.of_pick Wpk) (by rfl) Wsb ?_
        exact ⟨by simp [shiftP, upI, h1, h2, h3, Part.val], rfl⟩
      · -- TTF
        refine GC.skip ?_
        refine GE.seq ?_
        refine GC.seq ?_
        refine GC.region ?_
        refine GL.v Wlba ?_
        refine GL.store_varN rfl rfl rfl Wpk (by rfl) (by rfl) (by rfl) ?_
        refine GL.nil ?_
        refine GE.seq ?_
        refine GC.ret ?_
        -- returns, path TTF
        refine GE.ret_cell (L' := L) (.inl rfl) rfl rfl rfl (BlkRd.of_pick Wpk) (by rfl) Wsb ?_
        exact ⟨by simp [shiftP, upI, h1, h2, h3, Part.val], rfl⟩
    · -- TF
      refine GC.skip ?_
      refine GE.seq ?_
      refine GC.seq ?_
      refine GC.seq ?_
      refine GC.region ?_
      refine GL.v Wfa ?_
      refine GL.v Wlb ?_
      refine GL.v Wgq ?_
      refine GL.nil ?_
      refine GE.seq ?_
      refine GC.ifs (fun h3 => ?_) (fun h3 => ?_)
      · -- TFT
        refine GC.region ?_
        refine GL.v Wfa ?_
        refine GL.v Wlb ?_
        refine GL.v Wmv ?_
        refine GL.v Wad ?_
        refine GL.v Wfa ?_
        refine GL.store_blk rfl rfl rfl Wpk (Nat.lt_of_lt_of_le (Nat.le_of_ble_eq_true (by rfl)) (Nat.le_refl _)) (by rfl) (by rfl) ?_
        refine GL.nil ?_
        refine GE.seq ?_
        refine GC.seq ?_
        refine GC.region ?_
        refine GL.v Wlba ?_
        refine GL.store_varN rfl rfl rfl Wpk (by rfl) (by rfl) (by rfl) ?_
        refine GL.nil ?_
        refine GE.seq ?_
        refine GC.ret ?_
        -- returns, path TFT
        refine GE.ret_cell (L' := L) (.inl rfl) rfl rfl rfl (BlkRd.of_pick Wpk) (by rfl) Wsb ?_
        exact ⟨by simp [shiftP, upI, h1, h2, h3, Part.val], rfl⟩
      · -- TFF
        refine GC.skip ?_
        refine GE.seq ?_
        refine GC.seq ?_
        refine GC.region ?_
        refine GL.v Wlba ?_
        refine GL.store_varN rfl rfl rfl Wpk (by rfl) (by rfl) (by rfl) ?_
        refine GL.nil ?_
        refine GE.seq ?_
        refine GC.ret ?_
        -- returns, path TFF
        refine GE.ret_cell (L' := L) (.inl rfl) rfl rfl rfl (BlkRd.of_pick Wpk) (by rfl) Wsb ?_
        exact ⟨by simp [shiftP, upI, h1, h2, h3, Part.val], rfl⟩
  · -- F
    refine GC.skip ?_
    refine GE.seq ?_
    refine GC.seq ?_
    refine GC.seq ?_
    refine GC.region ?_
    refine GL.v Wfa ?_
    refine GL.v Wlb ?_
    refine GL.v Wgq ?_
    refine GL.nil ?_
    refine GE.seq ?_
    refine GC.ifs (fun h2 => ?_) (fun h2 => ?_)
    · -- FT
      refine GC.region ?_
      refine GL.v Wfa ?_
      refine GL.v Wlb ?_
      refine GL.v Wmv ?_
      refine GL.v Wad ?_
      refine GL.v Wfa ?_
      refine GL.store_blk rfl rfl rfl Wpk (Nat.lt_of_lt_of_le (Nat.le_of_ble_eq_true (by rfl)) (Nat.le_refl _)) (by rfl) (by rfl) ?_
      refine GL.nil ?_
      refine GE.seq ?_
      refine GC.seq ?_
      refine GC.seq ?_
      refine GC.region ?_
      refine GL.v Wfa ?_
      refine GL.v Wlb ?_
      refine GL.v Wgq ?_
      refine GL.nil ?_
      refine GE.seq ?_
      refine GC.ifs (fun h3 => ?_) (fun h3 => ?_)
      · -- FTT
        refine GC.region ?_
        refine GL.v Wfa ?_
        refine GL.v Wlb ?_
        refine GL.v Wmv ?_
        refine GL.v Wad ?_
        refine GL.v Wfa ?_
        refine GL.store_blk rfl rfl rfl Wpk (Nat.lt_of_lt_of_le (Nat.le_of_ble_eq_true (by rfl)) (Nat.le_refl _)) (by rfl) (by rfl) ?_
        refine GL.nil ?_
        refine GE.seq ?_
        refine GC.seq ?_
        refine GC.region ?_
        refine GL.v Wlba ?_
        refine GL.store_varN rfl rfl rfl Wpk (by rfl) (by rfl) (by rfl) ?_
        refine GL.nil ?_
        refine GE.seq ?_
        refine GC.ret ?_
        -- returns, path FTT
        refine GE.ret_cell (L' := L) (.inl rfl) rfl rfl rfl (BlkRd.of_pick Wpk) (by rfl) Wsb ?_
        exact ⟨by simp [shiftP, upI, h1, h2, h3, Part.val], rfl⟩
      · -- FTF
        refine GC.skip ?_
        refine GE.seq ?_
        refine GC.seq ?_
        refine GC.region ?_
        refine GL.v Wlba ?_
        refine GL.store_varN rfl rfl rfl Wpk (by rfl) (by rfl) (by rfl) ?_
        refine GL.nil ?_
        refine GE.seq ?_
        refine GC.ret ?_
        -- returns, path FTF
        refine GE.ret_cell (L' := L) (.inl rfl) rfl rfl rfl (BlkRd.of_pick Wpk) (by rfl) Wsb ?_
        exact ⟨by simp [shiftP, upI, h1, h2, h3, Part.val], rfl⟩
    · -- FF
      refine GC.skip ?_
      refine GE.seq ?_
      refine GC.seq ?_
      refine GC.seq ?_
      refine GC.region ?_
      refine GL.v Wfa ?_
      refine GL.v Wlb ?_
      refine GL.v Wgq ?_
      refine GL.nil ?_
      refine GE.seq ?_
      refine GC.ifs (fun h3 => ?_) (fun h3 => ?_)
      · -- FFT
        refine GC.region ?_
        refine GL.v Wfa ?_
        refine GL.v Wlb ?_
        refine GL.v Wmv ?_
        refine GL.v Wad ?_
        refine GL.v Wfa ?_
        refine GL.store_blk rfl rfl rfl Wpk (Nat.lt_of_lt_of_le (Nat.le_of_ble_eq_true (by rfl)) (Nat.le_refl _)) (by rfl) (by rfl) ?_
        refine GL.nil ?_
        refine GE.seq ?_
        refine GC.seq ?_
        refine GC.region ?_
        refine GL.v Wlba ?_
        refine GL.store_varN rfl rfl rfl Wpk (by rfl) (by rfl) (by rfl) ?_
        refine GL.nil ?_
        refine GE.seq ?_
        refine GC.ret ?_
        -- returns, path FFT
        refine GE.ret_cell (L' := L) (.inl rfl) rfl rfl rfl (BlkRd.of_pick Wpk) (by rfl) Wsb ?_
        exact ⟨by simp [shiftP, upI, h1, h2, h3, Part.val], rfl⟩
      · -- FFF
        refine GC.skip ?_
        refine GE.seq ?_
        refine GC.seq ?_
        refine GC.region ?_
        refine GL.v Wlba ?_
        refine GL.store_varN rfl rfl rfl Wpk (by rfl) (by rfl) (by rfl) ?_
        refine GL.nil ?_
        refine GE.seq ?_
        refine GC.ret ?_
        -- returns, path FFF
        refine GE.ret_cell (L' := L) (.inl rfl) rfl rfl rfl (BlkRd.of_pick Wpk) (by rfl) Wsb ?_
        exact ⟨by simp [shiftP, upI, h1, h2, h3, Part.val], rfl⟩
theorem folded_spec (w0 : World) (L : List Asn) (A : Option Addr) (c : Nat) (ps : List Part) (hR : Rd w0 L partE A c ps) (hv : ∀ i (h : i < ps.length), GoodAt ps[i] i) (hl : ps.length ≤ 12) :
    ∀ (f i : Nat) (hi : i < ps.length) (hf : i < f) (hf12 : f ≤ 12) (X : List Asn) (hX : Imp w0 X L) (k : Int) (hk : k = i),
    Tr Try.prog 109 #[.agg #[.slice A ps.length c], .int .i64 k] w0 X (fun v L' => ∃ B d, v = .agg #[.slice B (foldL ps f i).length d] ∧ L' = row partE B d (foldL ps f i) :: X) := by
  intro f
  induction f with
  | zero => intro i _ hf; omega
  | succ f ih =>
    intro i hi hf hf12 X hX k hk
    subst hk
    have hg := hv i hi
    have hRX := hR.imp hX
    have h4 : 3 ^ f ≤ 177147 := Nat.pow_le_pow_right (by decide) (show f ≤ 11 by omega)
    obtain ⟨q, hq⟩ : ∃ q, ps[i] = q := ⟨_, rfl⟩
    have hfo : foldL ps (f + 1) i = foldP q ((belowL q).map fun k => foldL ps f k.toNat) := by rw [foldL_some hi, hq]
    rw [hq] at hg
    have hbl := belowL_three q
    obtain ⟨gs, hgs⟩ : ∃ gs, (belowL q).map (fun k => foldL ps f k.toNat) = gs := ⟨_, rfl⟩
    rw [hgs] at hfo
    have hgl : gs.length = (belowL q).length := by rw [← hgs, List.length_map]
    have hgb : ∀ g ∈ gs, g.length ≤ 100000 := fun g hm => by
      rw [← hgs] at hm
      obtain ⟨k, _, rfl⟩ := List.mem_map.1 hm
      have := foldL_bound ps f k.toNat
      omega
    have hgi : ∀ j (h : j < gs.length), ∃ k : Nat, k < f ∧ k < ps.length ∧ gs[j] = foldL ps f k := fun j h => by
      have hj : j < (belowL q).length := by omega
      have hb := hg.2 _ (List.getElem_mem hj)
      exact ⟨((belowL q)[j]).toNat, by omega, by omega, by simp only [← hgs, List.getElem_map]⟩
    have hlow : ∀ j (h : j < gs.length), 1 ≤ gs[j].length ∧ (isNum gs[j] → 0 ≤ (lastP gs[j]).n ∧ (lastP gs[j]).n ≤ 99) := fun j h => by
      obtain ⟨k, k1, k2, e⟩ := hgi j h
      rw [e]; exact foldL_low hv k1 k2
    rw [hfo]
    refine Tr.enter (args := [.agg #[.slice A ps.length c], .int .i64 i]) Try.func109 Try.ntmps109 rfl rfl ?_
    refine GC.seq ?_
    refine GC.region ?_
    refine GL.box_agg rfl rfl ?_; intro g2
    refine GL.alloc rfl ?_; intro g4
    refine GL.nil ?_
    refine GE.seq ?_
    refine GC.seq ?_
    refine GC.region ?_
    refine GL.v Wfa ?_
    refine GL.v Wlb ?_
    refine GL.v Wmv ?_
    refine GL.v Wix ?_
    refine GL.v Wle ?_
    rw [show partE.val ps[i] = .agg #[.int .i64 q.kind, .int .i64 q.a, .int .i64 q.b, .int .i64 q.c, .int .i64 q.n] by rw [hq]; rfl]
    refine GL.alloc rfl ?_; intro g5
    refine GL.store_varN rfl rfl rfl Wpk (by rfl) (by rfl) (by rfl) ?_
    refine GL.nil ?_
    refine GE.seq ?_
    refine GC.seq ?_
    refine GC.region ?_
    refine GL.v Wlba ?_
    refine GL.call rfl rfl (sbelow_spec _ _ _) ?_; rintro _ _ ⟨A22, c22, rfl, rfl⟩
    refine GL.v Wag ?_
    refine GL.nil ?_
    refine GE.seq ?_
    refine GC.seq ?_
    refine GC.seq ?_
    refine GC.region ?_
    refine GL.v Wmv ?_
    refine GL.v Wln ?_
    refine GL.v Weq ?_
    refine GL.nil ?_
    refine GE.seq ?_
    refine GC.ifs (fun h1 => ?_) (fun h1 => ?_)
    · -- T
      refine GC.seq ?_
      refine GC.region ?_
      refine GL.v Wlba ?_
      refine GL.buildSlice rfl (by first | exact bsInt0 | exact bsInt1 _ | exact bsInt2 _ _ | exact bsInt3 _ _ _ | exact bsInt4 _ _ _ _ | exact bsInt5 _ _ _ _ _ | exact bsInt6 _ _ _ _ _ _ | exact bsInt7 _ _ _ _ _ _ _ | exact bsInt8 _ _ _ _ _ _ _ _ | exact bsInt9 _ _ _ _ _ _ _ _ _ | exact bsInt10 _ _ _ _ _ _ _ _ _ _ | exact bsPart0 | exact bsPart1 ⟨_, _, _, _, _⟩ | exact bsNode1 ⟨_, _, _, _⟩ | exact bsPtr3 _ _ _ | exact bsSl0 | exact bsSl1 ⟨_, _, _⟩ | exact bsForm0 | exact bsForm1 ⟨_, _, _⟩ | exact bsAct0 | exact bsBool0 | exact bsAct1 ⟨_, _, _⟩) rfl (by decide) rfl ?_; intro g27
      refine GL.v (by exact EvP.r (Ev.build rfl (by first | exact bdPart ⟨_, _, _, _, _⟩ | exact bdReader _ _ _ | exact bdPart4 _ _ _ _ | exact bdForm _ _ _ | exact bdForm0 | exact bdGraph0 | exact bdGraph _ _ _ | exact bdNode1 _ | exact bdNode2 _ _ _ _ | exact bdHist0 | exact bdHist1 _ _ _ | exact bdHist2 _ _ _ _ | exact bdAct1 _ | exact bdAct2 _ _ | exact bdAct3 _ _ _ | exact bdAct13 _ _ | exact bdSes _ _ _ _ _ _ _ _ _))) ?_
      refine GL.store_varN rfl rfl rfl Wpk (by rfl) (by rfl) (by rfl) ?_
      refine GL.nil ?_
      refine GE.seq ?_
      refine GC.ret ?_
      refine GE.seq_ret ?_
      -- returns, path T
      refine GE.ret_cell (L' := row partE (some ⟨g27, 0, none⟩) 1 [q] :: X) (.inl rfl) rfl rfl rfl (BlkRd.of_pick Wpk) (by rfl) Wsb ?_
      have hn : belowL q = [] := List.eq_nil_of_length_eq_zero (by omega)
      have hkk : q.kind = 0 ∨ q.kind = 1 := by
        rcases good_kind hg with h | h | h | h
        · exact .inl h
        · exact .inr h
        · rw [belowL_bin h] at hn; cases hn
        · rw [belowL_if h] at hn; cases hn
      have e : foldP q gs = [q] := by rw [← hgs, hn]; exact foldP_leaf hkk
      rw [e]
      exact ⟨_, _, rfl, rfl⟩
    · -- F
      refine GC.skip ?_
      refine GE.seq ?_
      refine GC.seq ?_
      refine GC.region ?_
      refine GL.buildSlice rfl (by first | exact bsInt0 | exact bsInt1 _ | exact bsInt2 _ _ | exact bsInt3 _ _ _ | exact bsInt4 _ _ _ _ | exact bsInt5 _ _ _ _ _ | exact bsInt6 _ _ _ _ _ _ | exact bsInt7 _ _ _ _ _ _ _ | exact bsInt8 _ _ _ _ _ _ _ _ | exact bsInt9 _ _ _ _ _ _ _ _ _ | exact bsInt10 _ _ _ _ _ _ _ _ _ _ | exact bsPart0 | exact bsPart1 ⟨_, _, _, _, _⟩ | exact bsNode1 ⟨_, _, _, _⟩ | exact bsPtr3 _ _ _ | exact bsSl0 | exact bsSl1 ⟨_, _, _⟩ | exact bsForm0 | exact bsForm1 ⟨_, _, _⟩ | exact bsAct0 | exact bsBool0 | exact bsAct1 ⟨_, _, _⟩) rfl (by decide) rfl ?_; intro g29
      refine GL.v Wag ?_
      refine GL.nil ?_
      refine GE.seq ?_
      refine GC.seq ?_
      refine GC.seq ?_
      refine GC.region ?_
      refine GL.v Wag ?_
      refine GL.nil ?_
      refine GE.seq ?_
      refine GC.block ?_
      -- loop 1: carried slots [7, 8]
      refine GC.forms0 ?_
      refine GC.loopK (α := Nat × Option Addr × Nat × List FoM) (fun x => x.1 ≤ (belowL q).length ∧ x.2.2.2.length = x.1 ∧ fo x.2.2.2 = gs.take x.1) (fun x => [(7, .slice x.2.1 x.2.2.2.length x.2.2.1), (8, .int .i64 x.1)]) [(2, _), (4, _), (5, _), (6, _)] (fun x => row formE x.2.1 x.2.2.1 x.2.2.2 :: formsA x.2.2.2 :: row intE A22 c22 (belowL q) :: blk g5 103 [.int .i64 q.kind, .int .i64 q.a, .int .i64 q.b, .int .i64 q.c, .int .i64 q.n] :: blk g2 35 [.slice A ps.length c] :: blk g4 35 [.slice none 0 0] :: X) (fun x => (belowL q).length - x.1) (0, some ⟨g29, 0, none⟩, 0, []) Wkp Wsb ⟨Nat.zero_le _, rfl, by simp [fo]⟩ ?_
      rintro ⟨k, E, e, fs⟩ ⟨hk, hfl, hfo2⟩
      dsimp only at hk hfl hfo2 ⊢
      refine GC.seq ?_
      refine GC.seq ?_
      refine GC.region ?_
      refine GL.v Wmv ?_
      refine GL.v Wmv ?_
      refine GL.v Wln ?_
      refine GL.v Wls ?_
      refine GL.nil ?_
      refine GE.seq ?_
      refine GC.ifs (fun h2 => ?_) (fun h2 => ?_)
      · -- FT
        have hkl : k < (belowL q).length := by omega
        have hgk := hg.2 _ (List.getElem_mem hkl)
        have hgt : gs.take (k + 1) = gs.take k ++ [foldL ps f ((belowL q)[k]).toNat] := by
          rw [List.take_succ_eq_append_getElem (by omega)]
          congr 2
          simp only [← hgs, List.getElem_map]
        refine GC.skip ?_
        refine GE.seq ?_
        refine GC.seq ?_
        refine GC.block ?_
        refine GC.region_any #[false, false, false, false, false, false, true, true, true, false] mixed ?_
        refine GA.take 0 #[false, true, true, true, true, true, true, true, false, false] rfl (by exact Ev.move rfl) rfl rfl (by kernel_rfl) rfl (by kernel_rfl) (by kernel_rfl) (fun _ _ _ h => h) ?_
        refine GA.read 1 #[true, false, true, true, true, true, false, false, false, false] rfl (by exact Wlba) rfl rfl (by kernel_rfl) rfl (by kernel_rfl) (by kernel_rfl) (fun _ _ _ h => h) ?_
        refine GA.take 2 #[true, true, false, true, false, false, false, false, false, false] rfl (by exact Ev.move rfl) rfl rfl (by kernel_rfl) rfl (by kernel_rfl) (by kernel_rfl) (fun _ _ _ h => h) ?_
        refine GA.take 3 #[true, true, true, false, false, false, false, false, false, false] rfl (by exact Ev.move rfl) rfl rfl (by kernel_rfl) rfl (by kernel_rfl) (by kernel_rfl) (fun _ _ _ h => h) ?_
        refine GA.read 4 #[true, true, true, true, false, false, false, false, false, false] rfl (by exact Wix) rfl rfl (by kernel_rfl) rfl (by kernel_rfl) (by kernel_rfl) (fun _ _ _ h => h) ?_
        refine GA.read 5 #[true, true, true, true, true, false, false, false, false, false] rfl (by exact Wle) rfl rfl (by kernel_rfl) rfl (by kernel_rfl) (by kernel_rfl) (fun _ _ _ h => h) ?_
        refine GA.branch (rs := [6]) (JOk.live (by exact Wle) (JOk.live (by exact Wix) (JOk.live (by exact Wlba) JOk.nil))) (by kernel_rfl) (by simp) ?_
        refine GAs.cons rfl ?_ ?_
        · -- FT op 6
          refine GL.call rfl rfl (ih ((belowL q)[k]).toNat (by omega) (by omega) (by omega) _ (by repeat (first | exact hX | refine Imp.cons ?_)) _ (by omega)) ?_
          rintro _ _ ⟨B42, d42, rfl, rfl⟩
          refine GL.nil ?_
          refine GE.any ?_
          refine GA.branch (rs := [7]) (JOk.dead (by kernel_rfl) (JOk.dead (by kernel_rfl) (JOk.dead (by kernel_rfl) JOk.nil))) (by kernel_rfl) (by simp) ?_
          refine GAs.cons rfl ?_ ?_
          · -- FT op 7
            refine GL.buildSlice rfl (by first | exact bsInt0 | exact bsInt1 _ | exact bsInt2 _ _ | exact bsInt3 _ _ _ | exact bsInt4 _ _ _ _ | exact bsInt5 _ _ _ _ _ | exact bsInt6 _ _ _ _ _ _ | exact bsInt7 _ _ _ _ _ _ _ | exact bsInt8 _ _ _ _ _ _ _ _ | exact bsInt9 _ _ _ _ _ _ _ _ _ | exact bsInt10 _ _ _ _ _ _ _ _ _ _ | exact bsPart0 | exact bsPart1 ⟨_, _, _, _, _⟩ | exact bsNode1 ⟨_, _, _, _⟩ | exact bsPtr3 _ _ _ | exact bsSl0 | exact bsSl1 ⟨_, _, _⟩ | exact bsForm0 | exact bsForm1 ⟨_, _, _⟩ | exact bsAct0 | exact bsBool0 | exact bsAct1 ⟨_, _, _⟩) rfl (by decide) rfl ?_; intro g43
            refine GL.nil ?_
            refine GE.any ?_
            refine GA.branch (rs := [8]) (JOk.dead (by kernel_rfl) (JOk.dead (by kernel_rfl) (JOk.dead (by kernel_rfl) JOk.nil))) (by kernel_rfl) (by simp) ?_
            refine GAs.cons rfl ?_ ?_
            · -- FT op 8
              first | (refine GL.append rfl rfl Wpk (by assumption) Wim (by first | rfl | (simp; done) | (simp; omega)) (by first | rfl | (simp; done) | (simp; omega)) (by first | omega | (simp; omega)) (by first | omega | (simp; omega)) rfl ?_; intro A44 c44) | (refine GL.append rfl rfl Wpk (Rd.of_pick Wpk) Imp.refl (by first | rfl | (simp; done) | (simp; omega)) (by first | rfl | (simp; done) | (simp; omega)) (by first | omega | (simp; omega)) (by first | omega | (simp; omega)) rfl ?_; intro A44 c44)
              refine GL.nil ?_
              refine GE.any ?_
              refine GA.take 9 #[true, true, true, true, true, true, true, true, true, false] rfl (by exact Ev.assign rfl) rfl rfl (by kernel_rfl) rfl (by kernel_rfl) (by kernel_rfl) (fun _ _ _ h => h) ?_
              refine GA.done (JOk.dead (by kernel_rfl) (JOk.dead (by kernel_rfl) (JOk.dead (by kernel_rfl) JOk.nil))) (by kernel_rfl) ?_
              refine GE.block ?_
              refine GE.seq ?_
              refine GC.region ?_
              refine GL.v Wmv ?_
              refine GL.v Wad ?_
              refine GL.v Wag ?_
              refine GL.nil ?_
              -- round of loop 1, path FT
              refine GE.forms_snoc ⟨B42, d42, foldL ps f ((belowL q)[k]).toNat⟩ Wpk Wpk ?_
              refine GE.round (k + 1, _, _, fs ++ [⟨B42, d42, foldL ps f ((belowL q)[k]).toNat⟩]) ⟨by dsimp only; omega, by simp [hfl], ?_⟩ (by dsimp only; omega) Wkp Wsb
              dsimp only
              rw [hgt, ← hfo2]
              simp [fo]
            exact GAs.nil
          exact GAs.nil
        exact GAs.nil
      · -- FF
        refine GC.exit ?_
        refine GE.seq_exit ?_
        refine GE.loop_exit ?_
        refine GE.block_exit ?_
        refine GE.seq ?_
        refine GC.seq ?_
        refine GC.region_any #[false, false, false, false, false, false, false, false, false, false, false, false, true, true] mixed ?_
        obtain rfl : k = (belowL q).length := by omega
        rw [List.take_of_length_le (by omega)] at hfo2
        have hfg : fs.length = gs.length := by omega
        have hfi : ∀ j (h : j < fs.length) (h' : j < gs.length), fs[j].parts = gs[j] := fun j h h' => by
          have h1 : (fo fs)[j]'(by simpa using h) = fs[j].parts := fo_get _
          rw [← h1]; simp only [hfo2]
        have hgk : (q.kind = 8 → gs.length = 3) ∧ (q.kind ≠ 8 → gs.length = 2) := by
          rw [hgl]
          rcases good_kind hg with h | h | h | h
          · rw [belowL_leaf (.inl h)] at h1; exact absurd rfl h1
          · rw [belowL_leaf (.inr h)] at h1; exact absurd rfl h1
          · rw [belowL_bin h]; exact ⟨fun h8 => by omega, fun _ => rfl⟩
          · rw [belowL_if h]; exact ⟨fun _ => rfl, fun h8 => absurd h h8⟩
        have h2g : 2 ≤ gs.length := by
          by_cases h8 : q.kind = 8
          · have := hgk.1 h8; omega
          · have := hgk.2 h8; omega
        have h0f : 0 < fs.length := by omega
        have h1f : 1 < fs.length := by omega
        have hlw0 := hlow 0 (by omega)
        have hlw1 := hlow 1 (by omega)
        have hgb0 := hgb _ (List.getElem_mem (show 0 < gs.length by omega))
        have hgb1 := hgb _ (List.getElem_mem (show 1 < gs.length by omega))
        rw [← hfi 0 h0f (by omega)] at hlw0 hgb0
        rw [← hfi 1 h1f (by omega)] at hlw1 hgb1
        have hF0 : Rd w0 (row formE E e fs :: formsA fs :: row intE A22 c22 (belowL q) :: blk g5 103 [.int .i64 q.kind, .int .i64 q.a, .int .i64 q.b, .int .i64 q.c, .int .i64 q.n] :: blk g2 35 [.slice A ps.length c] :: blk g4 35 [.slice none 0 0] :: X) partE fs[0].a fs[0].c fs[0].parts := Rd.of_forms Wpk (List.getElem_mem h0f)
        have hF1 : Rd w0 (row formE E e fs :: formsA fs :: row intE A22 c22 (belowL q) :: blk g5 103 [.int .i64 q.kind, .int .i64 q.a, .int .i64 q.b, .int .i64 q.c, .int .i64 q.n] :: blk g2 35 [.slice A ps.length c] :: blk g4 35 [.slice none 0 0] :: X) partE fs[1].a fs[1].c fs[1].parts := Rd.of_forms Wpk (List.getElem_mem h1f)
        refine GA.take 0 #[false, false, false, false, true, true, true, true, true, true, false, false, true, false] rfl (by exact Ev.move rfl) rfl rfl (by kernel_rfl) rfl (by kernel_rfl) (by kernel_rfl) (fun _ _ _ h => h) ?_
        refine GA.read 1 #[true, false, false, false, true, true, true, true, true, true, false, false, true, false] rfl (by exact Ev.index (k := 0) rfl rfl (Rd.of_pick Wpk) Imp.refl rfl (by omega) (Nat.le_refl _)) rfl rfl (by kernel_rfl) rfl (by kernel_rfl) (by kernel_rfl) (fun _ _ _ h => h) ?_
        refine GA.take 2 #[true, true, false, false, true, true, true, true, true, true, false, false, true, false] rfl (by exact Ev.fieldAddr rfl) rfl rfl (by kernel_rfl) rfl (by kernel_rfl) (by kernel_rfl) (fun _ _ _ h => h) ?_
        refine GA.read 3 #[true, true, true, false, true, true, true, true, true, true, false, false, true, false] rfl (by exact Wlef) rfl rfl (by kernel_rfl) rfl (by kernel_rfl) (by kernel_rfl) (fun _ _ _ h => h) ?_
        refine GA.take 4 #[true, true, true, true, false, false, false, false, false, false, false, false, true, false] rfl (by exact Ev.move rfl) rfl rfl (by kernel_rfl) rfl (by kernel_rfl) (by kernel_rfl) (fun _ _ _ h => h) ?_
        refine GA.read 5 #[true, true, true, true, true, false, false, false, false, false, false, false, true, false] rfl (by exact Ev.index (k := 0) rfl rfl (Rd.of_pick Wpk) Imp.refl rfl (by omega) (Nat.le_refl _)) rfl rfl (by kernel_rfl) rfl (by kernel_rfl) (by kernel_rfl) (fun _ _ _ h => h) ?_
        refine GA.take 6 #[true, true, true, true, true, true, false, false, false, false, false, false, true, false] rfl (by exact Ev.fieldAddr rfl) rfl rfl (by kernel_rfl) rfl (by kernel_rfl) (by kernel_rfl) (fun _ _ _ h => h) ?_
        refine GA.read 7 #[true, true, true, true, true, true, true, false, false, false, false, false, true, false] rfl (by exact Wlef) rfl rfl (by kernel_rfl) rfl (by kernel_rfl) (by kernel_rfl) (fun _ _ _ h => h) ?_
        refine GA.take 8 #[true, true, true, true, true, true, true, true, false, false, false, false, true, false] rfl (by exact Ev.len rfl) rfl rfl (by kernel_rfl) rfl (by kernel_rfl) (by kernel_rfl) (fun _ _ _ h => h) ?_
        refine GA.take 9 #[true, true, true, true, true, true, true, true, true, false, false, false, true, false] rfl (by exact Ev.sub rfl rfl (by omega)) rfl rfl (by kernel_rfl) rfl (by kernel_rfl) (by kernel_rfl) (fun _ _ _ h => h) ?_
        refine GA.read 10 #[true, true, true, true, true, true, true, true, true, true, false, false, true, false] rfl (by exact Wix) rfl rfl (by kernel_rfl) rfl (by kernel_rfl) (by kernel_rfl) (fun _ _ _ h => h) ?_
        refine GA.read 11 #[true, true, true, true, true, true, true, true, true, true, true, false, true, false] rfl (by exact Wle) rfl rfl (by kernel_rfl) rfl (by kernel_rfl) (by kernel_rfl) (fun _ _ _ h => h) ?_
        refine GA.branch (rs := [12]) (JOk.live (by exact Wle) (JOk.live (by exact Wix) (JOk.live (by exact Wlef) (JOk.live (by exact Ev.index (k := 0) rfl rfl (Rd.of_pick Wpk) Imp.refl rfl (by omega) (Nat.le_refl _)) (JOk.live (by exact Wlef) (JOk.live (by exact Ev.index (k := 0) rfl rfl (Rd.of_pick Wpk) Imp.refl rfl (by omega) (Nat.le_refl _)) JOk.nil)))))) (by kernel_rfl) (by simp) ?_
        refine GAs.cons rfl ?_ ?_
        · -- FF op 12
          refine GL.alloc rfl ?_; intro g9
          refine GL.nil ?_
          refine GE.any ?_
          refine GA.branch (rs := [13]) (JOk.live (by exact Wle) (JOk.live (by exact Wix) (JOk.live (by exact Wlef) (JOk.live (by exact Ev.index (k := 0) rfl rfl (Rd.of_pick Wpk) Imp.refl rfl (by omega) (Nat.le_refl _)) (JOk.live (by exact Wlef) (JOk.live (by exact Ev.index (k := 0) rfl rfl (Rd.of_pick Wpk) Imp.refl rfl (by omega) (Nat.le_refl _)) JOk.nil)))))) (by kernel_rfl) (by simp) ?_
          refine GAs.cons rfl ?_ ?_
          · -- FF op 13
            refine GL.store_varN rfl rfl rfl Wpk (by rfl) (by rfl) (by rfl) ?_
            refine GL.nil ?_
            refine GE.any ?_
            refine GA.done (JOk.dead (by kernel_rfl) (JOk.dead (by kernel_rfl) (JOk.dead (by kernel_rfl) (JOk.dead (by kernel_rfl) (JOk.dead (by kernel_rfl) (JOk.dead (by kernel_rfl) JOk.nil)))))) (by kernel_rfl) ?_
            refine GE.seq ?_
            refine GC.seq ?_
            refine GC.region_any #[false, false, false, false, false, false, false, false, false, false, false, false, true, true] mixed ?_
            refine GA.take 0 #[false, false, false, false, true, true, true, true, true, true, false, false, true, false] rfl (by exact Ev.move rfl) rfl rfl (by kernel_rfl) rfl (by kernel_rfl) (by kernel_rfl) (fun _ _ _ h => h) ?_
            refine GA.read 1 #[true, false, false, false, true, true, true, true, true, true, false, false, true, false] rfl (by exact Ev.index (k := 1) rfl rfl (Rd.of_pick Wpk) Imp.refl rfl (by omega) (Nat.le_refl _)) rfl rfl (by kernel_rfl) rfl (by kernel_rfl) (by kernel_rfl) (fun _ _ _ h => h) ?_
            refine GA.take 2 #[true, true, false, false, true, true, true, true, true, true, false, false, true, false] rfl (by exact Ev.fieldAddr rfl) rfl rfl (by kernel_rfl) rfl (by kernel_rfl) (by kernel_rfl) (fun _ _ _ h => h) ?_
            refine GA.read 3 #[true, true, true, false, true, true, true, true, true, true, false, false, true, false] rfl (by exact Wlef) rfl rfl (by kernel_rfl) rfl (by kernel_rfl) (by kernel_rfl) (fun _ _ _ h => h) ?_
            refine GA.take 4 #[true, true, true, true, false, false, false, false, false, false, false, false, true, false] rfl (by exact Ev.move rfl) rfl rfl (by kernel_rfl) rfl (by kernel_rfl) (by kernel_rfl) (fun _ _ _ h => h) ?_
            refine GA.read 5 #[true, true, true, true, true, false, false, false, false, false, false, false, true, false] rfl (by exact Ev.index (k := 1) rfl rfl (Rd.of_pick Wpk) Imp.refl rfl (by omega) (Nat.le_refl _)) rfl rfl (by kernel_rfl) rfl (by kernel_rfl) (by kernel_rfl) (fun _ _ _ h => h) ?_
            refine GA.take 6 #[true, true, true, true, true, true, false, false, false, false, false, false, true, false] rfl (by exact Ev.fieldAddr rfl) rfl rfl (by kernel_rfl) rfl (by kernel_rfl) (by kernel_rfl) (fun _ _ _ h => h) ?_
            refine GA.read 7 #[true, true, true, true, true, true, true, false, false, false, false, false, true, false] rfl (by exact Wlef) rfl rfl (by kernel_rfl) rfl (by kernel_rfl) (by kernel_rfl) (fun _ _ _ h => h) ?_
            refine GA.take 8 #[true, true, true, true, true, true, true, true, false, false, false, false, true, false] rfl (by exact Ev.len rfl) rfl rfl (by kernel_rfl) rfl (by kernel_rfl) (by kernel_rfl) (fun _ _ _ h => h) ?_
            refine GA.take 9 #[true, true, true, true, true, true, true, true, true, false, false, false, true, false] rfl (by exact Ev.sub rfl rfl (by omega)) rfl rfl (by kernel_rfl) rfl (by kernel_rfl) (by kernel_rfl) (fun _ _ _ h => h) ?_
            refine GA.read 10 #[true, true, true, true, true, true, true, true, true, true, false, false, true, false] rfl (by exact Wix) rfl rfl (by kernel_rfl) rfl (by kernel_rfl) (by kernel_rfl) (fun _ _ _ h => h) ?_
            refine GA.read 11 #[true, true, true, true, true, true, true, true, true, true, true, false, true, false] rfl (by exact Wle) rfl rfl (by kernel_rfl) rfl (by kernel_rfl) (by kernel_rfl) (fun _ _ _ h => h) ?_
            refine GA.branch (rs := [12]) (JOk.live (by exact Wle) (JOk.live (by exact Wix) (JOk.live (by exact Wlef) (JOk.live (by exact Ev.index (k := 1) rfl rfl (Rd.of_pick Wpk) Imp.refl rfl (by omega) (Nat.le_refl _)) (JOk.live (by exact Wlef) (JOk.live (by exact Ev.index (k := 1) rfl rfl (Rd.of_pick Wpk) Imp.refl rfl (by omega) (Nat.le_refl _)) JOk.nil)))))) (by kernel_rfl) (by simp) ?_
            refine GAs.cons rfl ?_ ?_
            · -- FF op 12
              refine GL.alloc rfl ?_; intro g10
              refine GL.nil ?_
              refine GE.any ?_
              refine GA.branch (rs := [13]) (JOk.live (by exact Wle) (JOk.live (by exact Wix) (JOk.live (by exact Wlef) (JOk.live (by exact Ev.index (k := 1) rfl rfl (Rd.of_pick Wpk) Imp.refl rfl (by omega) (Nat.le_refl _)) (JOk.live (by exact Wlef) (JOk.live (by exact Ev.index (k := 1) rfl rfl (Rd.of_pick Wpk) Imp.refl rfl (by omega) (Nat.le_refl _)) JOk.nil)))))) (by kernel_rfl) (by simp) ?_
              refine GAs.cons rfl ?_ ?_
              · -- FF op 13
                refine GL.store_varN rfl rfl rfl Wpk (by rfl) (by rfl) (by rfl) ?_
                refine GL.nil ?_
                refine GE.any ?_
                refine GA.done (JOk.dead (by kernel_rfl) (JOk.dead (by kernel_rfl) (JOk.dead (by kernel_rfl) (JOk.dead (by kernel_rfl) (JOk.dead (by kernel_rfl) (JOk.dead (by kernel_rfl) JOk.nil)))))) (by kernel_rfl) ?_
                refine GE.seq ?_
                -- midseq 12: carried slots []
                have e0 : fs[0].parts[((fs[0].parts.length : Int) - 1).toNat]'(by omega) = lastP fs[0].parts := by
                  rw [lastP_get (by omega)]
                  simp only [show ((fs[0].parts.length : Int) - 1).toNat = fs[0].parts.length - 1 by omega]
                obtain ⟨a, ha⟩ : ∃ a, lastP fs[0].parts = a := ⟨_, rfl⟩
                rw [ha] at e0
                rw [e0]
                have e1 : fs[1].parts[((fs[1].parts.length : Int) - 1).toNat]'(by omega) = lastP fs[1].parts := by
                  rw [lastP_get (by omega)]
                  simp only [show ((fs[1].parts.length : Int) - 1).toNat = fs[1].parts.length - 1 by omega]
                obtain ⟨b, hb⟩ : ∃ b, lastP fs[1].parts = b := ⟨_, rfl⟩
                rw [hb] at e1
                rw [e1]
                have g0 : gs.getD 0 [] = fs[0].parts := by rw [hfi 0 h0f (by omega)]; simp [List.getD_eq_getElem?_getD, List.getElem?_eq_getElem (show 0 < gs.length by omega)]
                have g1 : gs.getD 1 [] = fs[1].parts := by rw [hfi 1 h1f (by omega)]; simp [List.getD_eq_getElem?_getD, List.getElem?_eq_getElem (show 1 < gs.length by omega)]
                have hla : lastP (gs.getD 0 []) = a := by rw [g0, ha]
                have hlb : lastP (gs.getD 1 []) = b := by rw [g1, hb]
                have hna : isNum (gs.getD 0 []) ↔ a.kind = 0 := by unfold isNum; rw [hla]
                have hnb : isNum (gs.getD 1 []) ↔ b.kind = 0 := by unfold isNum; rw [hlb]
                have ham : a.kind = 0 → InMod a.n := fun h => by
                  have := hlw0.2 (by unfold isNum; rw [ha]; exact h)
                  rw [ha] at this
                  exact ⟨this.1, by omega⟩
                have hbm : b.kind = 0 → InMod b.n := fun h => by
                  have := hlw1.2 (by unfold isNum; rw [hb]; exact h)
                  rw [hb] at this
                  exact ⟨this.1, by omega⟩
                refine GC.seq_mid (β := Unit) (fun _ => ¬ (q.kind = 8 ∧ a.kind = 0)) (fun _ => []) [(4, _), (5, _), (7, _), (9, _), (10, _)] (fun _ => blk g9 103 [.int .i64 a.kind, .int .i64 a.a, .int .i64 a.b, .int .i64 a.c, .int .i64 a.n] :: blk g10 103 [.int .i64 b.kind, .int .i64 b.a, .int .i64 b.b, .int .i64 b.c, .int .i64 b.n] :: row formE E e fs :: formsA fs :: row intE A22 c22 (belowL q) :: blk g5 103 [.int .i64 q.kind, .int .i64 q.a, .int .i64 q.b, .int .i64 q.c, .int .i64 q.n] :: blk g2 35 [.slice A ps.length c] :: blk g4 35 [.slice none 0 0] :: X) Wkp ?_ ?_
                ·
                  refine GC.seq ?_
                  refine GC.region ?_
                  refine GL.v Wfa ?_
                  refine GL.v Wlb ?_
                  refine GL.v Weq ?_
                  refine GL.v Wmv ?_
                  refine GL.gs (fun h3 => ?_) (fun h3 => ?_)
                  · -- FFt
                    refine GL.want rfl rfl ?_
                    refine GL.v Wfa ?_
                    refine GL.want rfl rfl ?_
                    refine GL.v Wlb ?_
                    refine GL.want rfl rfl ?_
                    refine GL.v Weq ?_
                    refine GL.v Wpt ?_
                    refine GL.nil ?_
                    refine GE.seq ?_
                    refine GC.ifs (fun h4 => ?_) (fun h4 => ?_)
                    · -- FFtT
                      refine GC.seq ?_
                      refine GC.seq ?_
                      refine GC.region ?_
                      refine GL.v Wfa ?_
                      refine GL.v Wlb ?_
                      refine GL.v Wnq ?_
                      refine GL.nil ?_
                      refine GE.seq ?_
                      refine GC.ifs (fun h5 => ?_) (fun h5 => ?_)
                      · -- FFtTT
                        refine GC.seq ?_
                        refine GC.region ?_
                        refine GL.v Wmv ?_
                        refine GL.v (Ev.index (k := 1) rfl rfl (Rd.of_pick Wpk) Imp.refl rfl (by omega) (Nat.le_refl _)) ?_
                        refine GL.v Wle ?_
                        refine GL.store_varN rfl rfl rfl Wpk (by rfl) (by rfl) (by rfl) ?_
                        refine GL.nil ?_
                        refine GE.seq ?_
                        refine GC.ret ?_
                        refine GE.seq_ret ?_
                        refine GE.loop_ret ?_
                        -- returns, path FFtTT
                        refine GE.state (fun w hs => St.forms_out h1f Wpk hs) ?_
                        refine GE.ret_cell (L' := row partE fs[1].a fs[1].c fs[1].parts :: X) (.inl rfl) rfl rfl rfl (BlkRd.of_pick Wpk) (by rfl) Wsb ?_
                        rw [foldP_one h3 (hna.2 h4) (by rw [hla]; exact h5), g1]
                        exact ⟨_, _, rfl, rfl⟩
                      · -- FFtTF
                        refine GC.skip ?_
                        refine GE.seq ?_
                        refine GC.seq ?_
                        refine GC.region ?_
                        have h2f : 2 < fs.length := by have := hgk.1 h3; omega
                        refine GL.v Wmv ?_
                        refine GL.v (Ev.index (k := 2) rfl rfl (Rd.of_pick Wpk) Imp.refl rfl (by omega) (Nat.le_refl _)) ?_
                        refine GL.v Wle ?_
                        refine GL.store_varN rfl rfl rfl Wpk (by rfl) (by rfl) (by rfl) ?_
                        refine GL.nil ?_
                        refine GE.seq ?_
                        refine GC.ret ?_
                        refine GE.loop_ret ?_
                        -- returns, path FFtTF
                        refine GE.state (fun w hs => St.forms_out h2f Wpk hs) ?_
                        refine GE.ret_cell (L' := row partE fs[2].a fs[2].c fs[2].parts :: X) (.inl rfl) rfl rfl rfl (BlkRd.of_pick Wpk) (by rfl) Wsb ?_
                        have g2' : gs.getD 2 [] = fs[2].parts := by rw [hfi 2 h2f (by omega)]; simp [List.getD_eq_getElem?_getD, List.getElem?_eq_getElem (show 2 < gs.length by omega)]
                        rw [foldP_two h3 (hna.2 h4) (by rw [hla]; exact h5), g2']
                        exact ⟨_, _, rfl, rfl⟩
                    · -- FFtF
                      refine GC.skip ?_
                      refine GE.mid () (fun hh => h4 hh.2) Wkp Wsb
                  · -- FFf
                    refine GL.unwant rfl rfl rfl rfl ?_
                    refine GL.unwant rfl rfl rfl rfl ?_
                    refine GL.unwant rfl rfl rfl rfl ?_
                    refine GL.v Wpf ?_
                    refine GL.nil ?_
                    refine GE.seq ?_
                    refine GC.cond_false rfl ?_
                    refine GC.skip ?_
                    refine GE.mid () (fun hh => h3 hh.1) Wkp Wsb
                ·
                  rintro ⟨⟩ hno1
                  -- midseq 16: carried slots []
                  refine GC.seq_mid (β := Unit) (fun _ => ¬ (q.kind ≠ 8 ∧ a.kind = 0 ∧ b.kind = 0 ∧ joinI q.kind a.n b.n ≤ 99)) (fun _ => []) [(4, _), (5, _), (7, _), (9, _), (10, _)] (fun _ => blk g9 103 [.int .i64 a.kind, .int .i64 a.a, .int .i64 a.b, .int .i64 a.c, .int .i64 a.n] :: blk g10 103 [.int .i64 b.kind, .int .i64 b.a, .int .i64 b.b, .int .i64 b.c, .int .i64 b.n] :: row formE E e fs :: formsA fs :: row intE A22 c22 (belowL q) :: blk g5 103 [.int .i64 q.kind, .int .i64 q.a, .int .i64 q.b, .int .i64 q.c, .int .i64 q.n] :: blk g2 35 [.slice A ps.length c] :: blk g4 35 [.slice none 0 0] :: X) Wkp ?_ ?_
                  ·
                    refine GC.seq ?_
                    refine GC.region ?_
                    refine GL.v Wfa ?_
                    refine GL.v Wlb ?_
                    refine GL.v Wnq ?_
                    refine GL.v Wmv ?_
                    refine GL.gs (fun h3 => ?_) (fun h3 => ?_)
                    · -- FFt
                      refine GL.want rfl rfl ?_
                      refine GL.v Wfa ?_
                      refine GL.want rfl rfl ?_
                      refine GL.v Wlb ?_
                      refine GL.want rfl rfl ?_
                      refine GL.v Weq ?_
                      refine GL.v Wpt ?_
                      refine GL.v Wmv ?_
                      refine GL.gs (fun h4 => ?_) (fun h4 => ?_)
                      · -- FFtt
                        refine GL.want rfl rfl ?_
                        refine GL.v Wfa ?_
                        refine GL.want rfl rfl ?_
                        refine GL.v Wlb ?_
                        refine GL.want rfl rfl ?_
                        refine GL.v Weq ?_
                        refine GL.v Wpt ?_
                        refine GL.v Wmv ?_
                        refine GL.gs (fun h5 => ?_) (fun h5 => ?_)
                        · -- FFttt
                          refine GL.want rfl rfl ?_
                          refine GL.v Wfa ?_
                          refine GL.want rfl rfl ?_
                          refine GL.v Wlb ?_
                          refine GL.want rfl rfl ?_
                          refine GL.v Wfa ?_
                          refine GL.want rfl rfl ?_
                          refine GL.v Wlb ?_
                          refine GL.want rfl rfl ?_
                          refine GL.v Wfa ?_
                          refine GL.want rfl rfl ?_
                          refine GL.v Wlb ?_
                          refine GL.want rfl rfl ?_
                          have hia := ham h4
                          have hib := hbm h5
                          refine GL.callF rfl rfl (joined_spec _ _ _ _ _ (by assumption) (by assumption)) ?_
                          refine GL.want rfl rfl ?_
                          refine GL.v Wlq ?_
                          refine GL.v Wpt ?_
                          refine GL.nil ?_
                          refine GE.seq ?_
                          refine GC.ifs (fun h6 => ?_) (fun h6 => ?_)
                          · -- FFtttT
                            refine GC.seq ?_
                            refine GC.region ?_
                            refine GL.v Wfa ?_
                            refine GL.v Wlb ?_
                            refine GL.v Wfa ?_
                            refine GL.v Wlb ?_
                            refine GL.v Wfa ?_
                            refine GL.v Wlb ?_
                            refine GL.callF rfl rfl (joined_spec _ _ _ _ _ (by assumption) (by assumption)) ?_
                            refine GL.callF rfl rfl (numberPart_spec _ _ _) ?_
                            refine GL.buildSlice rfl (by first | exact bsInt0 | exact bsInt1 _ | exact bsInt2 _ _ | exact bsInt3 _ _ _ | exact bsInt4 _ _ _ _ | exact bsInt5 _ _ _ _ _ | exact bsInt6 _ _ _ _ _ _ | exact bsInt7 _ _ _ _ _ _ _ | exact bsInt8 _ _ _ _ _ _ _ _ | exact bsInt9 _ _ _ _ _ _ _ _ _ | exact bsInt10 _ _ _ _ _ _ _ _ _ _ | exact bsPart0 | exact bsPart1 ⟨_, _, _, _, _⟩ | exact bsNode1 ⟨_, _, _, _⟩ | exact bsPtr3 _ _ _ | exact bsSl0 | exact bsSl1 ⟨_, _, _⟩ | exact bsForm0 | exact bsForm1 ⟨_, _, _⟩ | exact bsAct0 | exact bsBool0 | exact bsAct1 ⟨_, _, _⟩) rfl (by decide) rfl ?_; intro g117
                            refine GL.v (by exact EvP.r (Ev.build rfl (by first | exact bdPart ⟨_, _, _, _, _⟩ | exact bdReader _ _ _ | exact bdPart4 _ _ _ _ | exact bdForm _ _ _ | exact bdForm0 | exact bdGraph0 | exact bdGraph _ _ _ | exact bdNode1 _ | exact bdNode2 _ _ _ _ | exact bdHist0 | exact bdHist1 _ _ _ | exact bdHist2 _ _ _ _ | exact bdAct1 _ | exact bdAct2 _ _ | exact bdAct3 _ _ _ | exact bdAct13 _ _ | exact bdSes _ _ _ _ _ _ _ _ _))) ?_
                            refine GL.store_varN rfl rfl rfl Wpk (by rfl) (by rfl) (by rfl) ?_
                            refine GL.nil ?_
                            refine GE.seq ?_
                            refine GC.ret ?_
                            refine GE.loop_ret ?_
                            -- returns, path FFtttT
                            refine GE.ret_cell (L' := row partE (some ⟨g117, 0, none⟩) 1 [numPart (joinI q.kind a.n b.n)] :: X) (.inl rfl) rfl rfl rfl (BlkRd.of_pick Wpk) (by rfl) Wsb ?_
                            rw [foldP_num h3 (hgk.2 h3) (hna.2 h4) (hnb.2 h5) (by rw [hla, hlb]; exact h6), hla, hlb]
                            exact ⟨_, _, rfl, rfl⟩
                          · -- FFtttF
                            refine GC.skip ?_
                            refine GE.mid () (fun hh => h6 hh.2.2.2) Wkp Wsb
                        · -- FFttf
                          refine GL.unwant rfl rfl rfl rfl ?_
                          refine GL.unwant rfl rfl rfl rfl ?_
                          refine GL.unwant rfl rfl rfl rfl ?_
                          refine GL.unwant rfl rfl rfl rfl ?_
                          refine GL.unwant rfl rfl rfl rfl ?_
                          refine GL.unwant rfl rfl rfl rfl ?_
                          refine GL.unwant rfl rfl rfl rfl ?_
                          refine GL.unwant rfl rfl rfl rfl ?_
                          refine GL.v Wpf ?_
                          refine GL.nil ?_
                          refine GE.seq ?_
                          refine GC.cond_false rfl ?_
                          refine GC.skip ?_
                          refine GE.mid () (fun hh => h5 hh.2.2.1) Wkp Wsb
                      · -- FFtf
                        refine GL.unwant rfl rfl rfl rfl ?_
                        refine GL.unwant rfl rfl rfl rfl ?_
                        refine GL.unwant rfl rfl rfl rfl ?_
                        refine GL.v Wpf ?_
                        refine GL.v Wmv ?_
                        refine GL.unwant rfl rfl rfl rfl ?_
                        refine GL.unwant rfl rfl rfl rfl ?_
                        refine GL.unwant rfl rfl rfl rfl ?_
                        refine GL.unwant rfl rfl rfl rfl ?_
                        refine GL.unwant rfl rfl rfl rfl ?_
                        refine GL.unwant rfl rfl rfl rfl ?_
                        refine GL.unwant rfl rfl rfl rfl ?_
                        refine GL.unwant rfl rfl rfl rfl ?_
                        refine GL.v Wpf ?_
                        refine GL.nil ?_
                        refine GE.seq ?_
                        refine GC.cond_false rfl ?_
                        refine GC.skip ?_
                        refine GE.mid () (fun hh => h4 hh.2.1) Wkp Wsb
                    · -- FFf
                      refine GL.unwant rfl rfl rfl rfl ?_
                      refine GL.unwant rfl rfl rfl rfl ?_
                      refine GL.unwant rfl rfl rfl rfl ?_
                      refine GL.v Wpf ?_
                      refine GL.v Wmv ?_
                      refine GL.unwant rfl rfl rfl rfl ?_
                      refine GL.unwant rfl rfl rfl rfl ?_
                      refine GL.unwant rfl rfl rfl rfl ?_
                      refine GL.v Wpf ?_
                      refine GL.v Wmv ?_
                      refine GL.unwant rfl rfl rfl rfl ?_
                      refine GL.unwant rfl rfl rfl rfl ?_
                      refine GL.unwant rfl rfl rfl rfl ?_
                      refine GL.unwant rfl rfl rfl rfl ?_
                      refine GL.unwant rfl rfl rfl rfl ?_
                      refine GL.unwant rfl rfl rfl rfl ?_
                      refine GL.unwant rfl rfl rfl rfl ?_
                      refine GL.unwant rfl rfl rfl rfl ?_
                      refine GL.v Wpf ?_
                      refine GL.nil ?_
                      refine GE.seq ?_
                      refine GC.cond_false rfl ?_
                      refine GC.skip ?_
                      refine GE.mid () (fun hh => hh.1 h3) Wkp Wsb
                  ·
                    rintro ⟨⟩ hno2
                    have hfc : foldP q gs = foldC q gs := foldP_put (by rw [hna]; exact hno1) (by rw [hna, hnb, hla, hlb]; exact fun hh => hno2 ⟨hh.1, hh.2.2.1, hh.2.2.2.1, hh.2.2.2.2⟩)
                    refine GC.seq ?_
                    refine GC.region ?_
                    refine GL.buildSlice rfl (by first | exact bsInt0 | exact bsInt1 _ | exact bsInt2 _ _ | exact bsInt3 _ _ _ | exact bsInt4 _ _ _ _ | exact bsInt5 _ _ _ _ _ | exact bsInt6 _ _ _ _ _ _ | exact bsInt7 _ _ _ _ _ _ _ | exact bsInt8 _ _ _ _ _ _ _ _ | exact bsInt9 _ _ _ _ _ _ _ _ _ | exact bsInt10 _ _ _ _ _ _ _ _ _ _ | exact bsPart0 | exact bsPart1 ⟨_, _, _, _, _⟩ | exact bsNode1 ⟨_, _, _, _⟩ | exact bsPtr3 _ _ _ | exact bsSl0 | exact bsSl1 ⟨_, _, _⟩ | exact bsForm0 | exact bsForm1 ⟨_, _, _⟩ | exact bsAct0 | exact bsBool0 | exact bsAct1 ⟨_, _, _⟩) rfl (by decide) rfl ?_; intro g119
                    refine GL.v Wag ?_
                    refine GL.nil ?_
                    refine GE.seq ?_
                    refine GC.seq ?_
                    refine GC.region ?_
                    refine GL.buildSlice rfl (by first | exact bsInt0 | exact bsInt1 _ | exact bsInt2 _ _ | exact bsInt3 _ _ _ | exact bsInt4 _ _ _ _ | exact bsInt5 _ _ _ _ _ | exact bsInt6 _ _ _ _ _ _ | exact bsInt7 _ _ _ _ _ _ _ | exact bsInt8 _ _ _ _ _ _ _ _ | exact bsInt9 _ _ _ _ _ _ _ _ _ | exact bsInt10 _ _ _ _ _ _ _ _ _ _ | exact bsPart0 | exact bsPart1 ⟨_, _, _, _, _⟩ | exact bsNode1 ⟨_, _, _, _⟩ | exact bsPtr3 _ _ _ | exact bsSl0 | exact bsSl1 ⟨_, _, _⟩ | exact bsForm0 | exact bsForm1 ⟨_, _, _⟩ | exact bsAct0 | exact bsBool0 | exact bsAct1 ⟨_, _, _⟩) rfl (by decide) rfl ?_; intro g120
                    refine GL.v Wag ?_
                    refine GL.nil ?_
                    refine GE.seq ?_
                    refine GC.seq ?_
                    refine GC.seq ?_
                    refine GC.region ?_
                    refine GL.v Wag ?_
                    refine GL.nil ?_
                    refine GE.seq ?_
                    refine GC.block ?_
                    -- loop 2: carried slots [11, 12, 13]
                    refine GC.loopK (α := Nat × (Option Addr × Nat) × (Option Addr × Nat)) (fun x => x.1 ≤ gs.length) (fun x => [(11, .slice x.2.1.1 (upS q gs x.1).2.length x.2.1.2), (12, .slice x.2.2.1 (endS q gs x.1).length x.2.2.2), (13, .int .i64 x.1)]) [(4, _), (5, _), (7, _)] (fun x => row partE x.2.1.1 x.2.1.2 (upS q gs x.1).2 :: row intE x.2.2.1 x.2.2.2 (endS q gs x.1) :: row formE E e fs :: formsA fs :: blk g5 103 [.int .i64 q.kind, .int .i64 q.a, .int .i64 q.b, .int .i64 q.c, .int .i64 q.n] :: blk g2 35 [.slice A ps.length c] :: blk g4 35 [.slice none 0 0] :: X) (fun x => gs.length - x.1) (0, (some ⟨g119, 0, none⟩, 0), (some ⟨g120, 0, none⟩, 0)) Wkp Wsb (Nat.zero_le _) ?_
                    rintro ⟨k, ⟨E1, e1⟩, ⟨E2, e2⟩⟩ hk
                    dsimp only at hk ⊢
                    have hul := upS_length q hgb k hk
                    have hel := endS_length q gs k
                    refine GC.seq ?_
                    refine GC.seq ?_
                    refine GC.region ?_
                    refine GL.v Wmv ?_
                    refine GL.v Wmv ?_
                    refine GL.v Wln ?_
                    refine GL.v Wls ?_
                    refine GL.nil ?_
                    refine GE.seq ?_
                    refine GC.ifs (fun h3 => ?_) (fun h3 => ?_)
                    · -- FFT
                      have hkl : k < gs.length := by omega
                      have hkf : k < fs.length := by omega
                      have hpk := hfi k hkf hkl
                      have hgk2 := hgb _ (List.getElem_mem hkl)
                      rw [← hpk] at hgk2
                      have hk3 : k ≤ 2 := by omega
                      obtain ⟨kk, kk1, kk2, kke⟩ := hgi k hkl
                      have hsm := foldL_small hv kk1 kk2
                      rw [← kke, ← hpk] at hsm
                      refine GC.skip ?_
                      refine GE.seq ?_
                      refine GC.seq ?_
                      refine GC.block ?_
                      refine GC.seq ?_
                      refine GC.region ?_
                      refine GL.v Wmv ?_
                      refine GL.v Wln ?_
                      refine GL.v Wag ?_
                      refine GL.nil ?_
                      refine GE.seq ?_
                      refine GC.seq ?_
                      refine GC.seq ?_
                      refine GC.region ?_
                      refine GL.v Wag ?_
                      refine GL.nil ?_
                      refine GE.seq ?_
                      refine GC.block ?_
                      -- loop 3: carried slots [11, 15]
                      refine GC.loopK (α := Nat × Option Addr × Nat) (fun y => y.1 ≤ fs[k].parts.length) (fun y => [(11, .slice y.2.1 (inS (upS q gs k).2 fs[k].parts y.1).length y.2.2), (15, .int .i64 y.1)]) [(4, _), (5, _), (7, _), (12, _), (13, _), (14, _)] (fun y => row partE y.2.1 y.2.2 (inS (upS q gs k).2 fs[k].parts y.1) :: row intE E2 e2 (endS q gs k) :: row formE E e fs :: formsA fs :: blk g5 103 [.int .i64 q.kind, .int .i64 q.a, .int .i64 q.b, .int .i64 q.c, .int .i64 q.n] :: blk g2 35 [.slice A ps.length c] :: blk g4 35 [.slice none 0 0] :: X) (fun y => fs[k].parts.length - y.1) (0, E1, e1) (by dsimp only; rw [inS_zero]; exact Wkp) (by dsimp only; rw [inS_zero]; exact Wsb) (Nat.zero_le _) ?_
                      rintro ⟨m, E3, e3⟩ hm
                      dsimp only at hm ⊢
                      have hil := inS_length (upS q gs k).2 fs[k].parts m
                      have hFk : Rd w0 (row partE E3 e3 (inS (upS q gs k).2 fs[k].parts m) :: row intE E2 e2 (endS q gs k) :: row formE E e fs :: formsA fs :: blk g5 103 [.int .i64 q.kind, .int .i64 q.a, .int .i64 q.b, .int .i64 q.c, .int .i64 q.n] :: blk g2 35 [.slice A ps.length c] :: blk g4 35 [.slice none 0 0] :: X) partE fs[k].a fs[k].c fs[k].parts := Rd.of_forms Wpk (List.getElem_mem hkf)
                      refine GC.seq ?_
                      refine GC.seq ?_
                      refine GC.region ?_
                      refine GL.v Wmv ?_
                      refine GL.v Wmv ?_
                      refine GL.v Wmv ?_
                      refine GL.v Wix ?_
                      refine GL.v Wfa ?_
                      refine GL.v Wlef ?_
                      refine GL.v Wln ?_
                      refine GL.v Wls ?_
                      refine GL.nil ?_
                      refine GE.seq ?_
                      refine GC.ifs (fun h4 => ?_) (fun h4 => ?_)
                      · -- FFTT
                        have hml : m < fs[k].parts.length := by omega
                        have hbd := hsm _ (List.getElem_mem hml)
                        refine GC.skip ?_
                        refine GE.seq ?_
                        refine GC.seq ?_
                        refine GC.block ?_
                        refine GC.region ?_
                        refine GL.v Wmv ?_
                        refine GL.v Wmv ?_
                        refine GL.v Wmv ?_
                        refine GL.v Wix ?_
                        refine GL.v Wfa ?_
                        refine GL.v Wlef ?_
                        refine GL.v Wmv ?_
                        refine GL.v Wix ?_
                        refine GL.v Wle ?_
                        refine GL.v Wmv ?_
                        refine GL.callF rfl rfl (moved_spec _ _ (fs[k].parts[m]) _ (by omega) (by omega) (by omega) (by omega)) ?_
                        refine GL.buildSlice rfl (by first | exact bsInt0 | exact bsInt1 _ | exact bsInt2 _ _ | exact bsInt3 _ _ _ | exact bsInt4 _ _ _ _ | exact bsInt5 _ _ _ _ _ | exact bsInt6 _ _ _ _ _ _ | exact bsInt7 _ _ _ _ _ _ _ | exact bsInt8 _ _ _ _ _ _ _ _ | exact bsInt9 _ _ _ _ _ _ _ _ _ | exact bsInt10 _ _ _ _ _ _ _ _ _ _ | exact bsPart0 | exact bsPart1 ⟨_, _, _, _, _⟩ | exact bsNode1 ⟨_, _, _, _⟩ | exact bsPtr3 _ _ _ | exact bsSl0 | exact bsSl1 ⟨_, _, _⟩ | exact bsForm0 | exact bsForm1 ⟨_, _, _⟩ | exact bsAct0 | exact bsBool0 | exact bsAct1 ⟨_, _, _⟩) rfl (by decide) rfl ?_; intro g150
                        first | (refine GL.append rfl rfl Wpk (by assumption) Wim (by first | rfl | (simp; done) | (simp; omega)) (by first | rfl | (simp; done) | (simp; omega)) (by first | omega | (simp; omega)) (by first | omega | (simp; omega)) rfl ?_; intro A151 c151) | (refine GL.append rfl rfl Wpk (Rd.of_pick Wpk) Imp.refl (by first | rfl | (simp; done) | (simp; omega)) (by first | rfl | (simp; done) | (simp; omega)) (by first | omega | (simp; omega)) (by first | omega | (simp; omega)) rfl ?_; intro A151 c151)
                        refine GL.v Wag ?_
                        refine GL.nil ?_
                        refine GE.block ?_
                        refine GE.seq ?_
                        refine GC.region ?_
                        refine GL.v Wmv ?_
                        refine GL.v Wad ?_
                        refine GL.v Wag ?_
                        refine GL.nil ?_
                        -- round of loop 3, path FFTT
                        have hin := inS_succ (upS q gs k).2 hml
                        refine GE.round (m + 1, _, _) (by dsimp only; omega) (by dsimp only; omega) (by dsimp only; rw [← hin]; exact Wkp) (by dsimp only; rw [← hin]; exact Wsb)
                      · -- FFTF
                        obtain rfl : m = fs[k].parts.length := by omega
                        have hup : inS (upS q gs k).2 fs[k].parts fs[k].parts.length = (upS q gs (k + 1)).2 := by rw [upS_in q hkl]; simp only [hpk]
                        rw [hup]
                        rw [hup] at hil
                        have hen := endS_succ q gs k
                        refine GC.exit ?_
                        refine GE.seq_exit ?_
                        refine GE.loop_exit ?_
                        refine GE.block_exit ?_
                        refine GE.seq ?_
                        refine GC.region ?_
                        refine GL.v Wmv ?_
                        refine GL.v Wmv ?_
                        refine GL.v Wln ?_
                        refine GL.v Wsu ?_
                        refine GL.buildSlice rfl (by first | exact bsInt0 | exact bsInt1 _ | exact bsInt2 _ _ | exact bsInt3 _ _ _ | exact bsInt4 _ _ _ _ | exact bsInt5 _ _ _ _ _ | exact bsInt6 _ _ _ _ _ _ | exact bsInt7 _ _ _ _ _ _ _ | exact bsInt8 _ _ _ _ _ _ _ _ | exact bsInt9 _ _ _ _ _ _ _ _ _ | exact bsInt10 _ _ _ _ _ _ _ _ _ _ | exact bsPart0 | exact bsPart1 ⟨_, _, _, _, _⟩ | exact bsNode1 ⟨_, _, _, _⟩ | exact bsPtr3 _ _ _ | exact bsSl0 | exact bsSl1 ⟨_, _, _⟩ | exact bsForm0 | exact bsForm1 ⟨_, _, _⟩ | exact bsAct0 | exact bsBool0 | exact bsAct1 ⟨_, _, _⟩) rfl (by decide) rfl ?_; intro g156
                        first | (refine GL.append rfl rfl Wpk (by assumption) Wim (by first | rfl | (simp; done) | (simp; omega)) (by first | rfl | (simp; done) | (simp; omega)) (by first | omega | (simp; omega)) (by first | omega | (simp; omega)) rfl ?_; intro A157 c157) | (refine GL.append rfl rfl Wpk (Rd.of_pick Wpk) Imp.refl (by first | rfl | (simp; done) | (simp; omega)) (by first | rfl | (simp; done) | (simp; omega)) (by first | omega | (simp; omega)) (by first | omega | (simp; omega)) rfl ?_; intro A157 c157)
                        refine GL.v Wag ?_
                        refine GL.nil ?_
                        refine GE.block ?_
                        refine GE.seq ?_
                        refine GC.region ?_
                        refine GL.v Wmv ?_
                        refine GL.v Wad ?_
                        refine GL.v Wag ?_
                        refine GL.nil ?_
                        -- round of loop 2, path FFTF
                        refine GE.round (k + 1, (_, _), (_, _)) (by dsimp only; omega) (by dsimp only; omega) (by dsimp only; rw [← hen]; exact Wkp) (by dsimp only; rw [← hen]; exact Wsb)
                    · -- FFF
                      obtain rfl : k = gs.length := by omega
                      refine GC.exit ?_
                      refine GE.seq_exit ?_
                      refine GE.loop_exit ?_
                      refine GE.block_exit ?_
                      refine GE.seq ?_
                      refine GC.seq ?_
                      refine GC.region ?_
                      refine GL.v Wmv ?_
                      refine GL.v (Ev.index (k := 0) rfl rfl (Rd.of_pick Wpk) Imp.refl rfl (by omega) (Nat.le_refl _)) ?_
                      refine GL.v Wle ?_
                      rw [endS_get]
                      refine GL.v Wfa ?_
                      refine GL.store_blk rfl rfl rfl Wpk (Nat.lt_of_lt_of_le (Nat.le_of_ble_eq_true (by rfl)) (Nat.le_refl _)) (by rfl) (by rfl) ?_
                      refine GL.nil ?_
                      refine GE.seq ?_
                      refine GC.seq ?_
                      refine GC.region ?_
                      refine GL.v Wmv ?_
                      refine GL.v (Ev.index (k := 1) rfl rfl (Rd.of_pick Wpk) Imp.refl rfl (by omega) (Nat.le_refl _)) ?_
                      refine GL.v Wle ?_
                      rw [endS_get]
                      refine GL.v Wfa ?_
                      refine GL.store_blk rfl rfl rfl Wpk (Nat.lt_of_lt_of_le (Nat.le_of_ble_eq_true (by rfl)) (Nat.le_refl _)) (by rfl) (by rfl) ?_
                      refine GL.nil ?_
                      refine GE.seq ?_
                      refine GC.seq ?_
                      refine GC.seq ?_
                      refine GC.region ?_
                      refine GL.v Wmv ?_
                      refine GL.v Wln ?_
                      refine GL.v Wgt ?_
                      refine GL.nil ?_
                      refine GE.seq ?_
                      refine GC.ifs (fun h4 => ?_) (fun h4 => ?_)
                      · -- FFFT
                        refine GC.region ?_
                        refine GL.v Wmv ?_
                        refine GL.v (Ev.index (k := 2) rfl rfl (Rd.of_pick Wpk) Imp.refl rfl (by omega) (Nat.le_refl _)) ?_
                        refine GL.v Wle ?_
                        rw [endS_get]
                        refine GL.v Wfa ?_
                        refine GL.store_blk rfl rfl rfl Wpk (Nat.lt_of_lt_of_le (Nat.le_of_ble_eq_true (by rfl)) (Nat.le_refl _)) (by rfl) (by rfl) ?_
                        refine GL.nil ?_
                        refine GE.seq ?_
                        refine GC.seq ?_
                        refine GC.region ?_
                        refine GL.v Wmv ?_
                        refine GL.v Wlba ?_
                        first
                        | (refine GL.buildSlice rfl (bsPart1 ⟨q.kind, ((upS q gs (0 + 1)).2.length : Int) - 1, ((upS q gs (1 + 1)).2.length : Int) - 1, ((upS q gs (2 + 1)).2.length : Int) - 1, q.n⟩) rfl (by decide) rfl ?_; intro g175)
                        | (refine GL.buildSlice rfl (bsPart1 ⟨q.kind, ((upS q gs (0 + 1)).2.length : Int) - 1, ((upS q gs (1 + 1)).2.length : Int) - 1, q.c, q.n⟩) rfl (by decide) rfl ?_; intro g175)
                        first | (refine GL.append rfl rfl Wpk (by assumption) Wim (by first | rfl | (simp; done) | (simp; omega)) (by first | rfl | (simp; done) | (simp; omega)) (by first | omega | (simp; omega)) (by first | omega | (simp; omega)) rfl ?_; intro A176 c176) | (refine GL.append rfl rfl Wpk (Rd.of_pick Wpk) Imp.refl (by first | rfl | (simp; done) | (simp; omega)) (by first | rfl | (simp; done) | (simp; omega)) (by first | omega | (simp; omega)) (by first | omega | (simp; omega)) rfl ?_; intro A176 c176)
                        refine GL.v (by exact EvP.r (Ev.build rfl (by first | exact bdPart ⟨_, _, _, _, _⟩ | exact bdReader _ _ _ | exact bdPart4 _ _ _ _ | exact bdForm _ _ _ | exact bdForm0 | exact bdGraph0 | exact bdGraph _ _ _ | exact bdNode1 _ | exact bdNode2 _ _ _ _ | exact bdHist0 | exact bdHist1 _ _ _ | exact bdHist2 _ _ _ _ | exact bdAct1 _ | exact bdAct2 _ _ | exact bdAct3 _ _ _ | exact bdAct13 _ _ | exact bdSes _ _ _ _ _ _ _ _ _))) ?_
                        refine GL.store_varN rfl rfl rfl Wpk (by rfl) (by rfl) (by rfl) ?_
                        refine GL.nil ?_
                        refine GE.seq ?_
                        refine GC.ret ?_
                        -- returns, path FFFT
                        refine GE.ret_cell (L' := row partE A176 c176 ((upS q gs gs.length).2 ++ [⟨q.kind, ((upS q gs (0 + 1)).2.length : Int) - 1, ((upS q gs (1 + 1)).2.length : Int) - 1, ((upS q gs (2 + 1)).2.length : Int) - 1, q.n⟩]) :: X) (.inl rfl) rfl rfl rfl (BlkRd.of_pick Wpk) (by rfl) Wsb ?_
                        have hl3 : gs.length = 3 := by
                          by_cases h8 : q.kind = 8
                          · exact hgk.1 h8
                          · have := hgk.2 h8; omega
                        have hu := upS_three q hl3
                        have e3 : upS q gs gs.length = upS q gs 3 := by rw [hl3]
                        rw [hfc, upS_full, e3, hu]
                        exact ⟨_, _, rfl, rfl⟩
                      · -- FFFF
                        refine GC.skip ?_
                        refine GE.seq ?_
                        refine GC.seq ?_
                        refine GC.region ?_
                        refine GL.v Wmv ?_
                        refine GL.v Wlba ?_
                        first
                        | (refine GL.buildSlice rfl (bsPart1 ⟨q.kind, ((upS q gs (0 + 1)).2.length : Int) - 1, ((upS q gs (1 + 1)).2.length : Int) - 1, ((upS q gs (2 + 1)).2.length : Int) - 1, q.n⟩) rfl (by decide) rfl ?_; intro g175)
                        | (refine GL.buildSlice rfl (bsPart1 ⟨q.kind, ((upS q gs (0 + 1)).2.length : Int) - 1, ((upS q gs (1 + 1)).2.length : Int) - 1, q.c, q.n⟩) rfl (by decide) rfl ?_; intro g175)
                        first | (refine GL.append rfl rfl Wpk (by assumption) Wim (by first | rfl | (simp; done) | (simp; omega)) (by first | rfl | (simp; done) | (simp; omega)) (by first | omega | (simp; omega)) (by first | omega | (simp; omega)) rfl ?_; intro A176 c176) | (refine GL.append rfl rfl Wpk (Rd.of_pick Wpk) Imp.refl (by first | rfl | (simp; done) | (simp; omega)) (by first | rfl | (simp; done) | (simp; omega)) (by first | omega | (simp; omega)) (by first | omega | (simp; omega)) rfl ?_; intro A176 c176)
                        refine GL.v (by exact EvP.r (Ev.build rfl (by first | exact bdPart ⟨_, _, _, _, _⟩ | exact bdReader _ _ _ | exact bdPart4 _ _ _ _ | exact bdForm _ _ _ | exact bdForm0 | exact bdGraph0 | exact bdGraph _ _ _ | exact bdNode1 _ | exact bdNode2 _ _ _ _ | exact bdHist0 | exact bdHist1 _ _ _ | exact bdHist2 _ _ _ _ | exact bdAct1 _ | exact bdAct2 _ _ | exact bdAct3 _ _ _ | exact bdAct13 _ _ | exact bdSes _ _ _ _ _ _ _ _ _))) ?_
                        refine GL.store_varN rfl rfl rfl Wpk (by rfl) (by rfl) (by rfl) ?_
                        refine GL.nil ?_
                        refine GE.seq ?_
                        refine GC.ret ?_
                        -- returns, path FFFF
                        refine GE.ret_cell (L' := row partE A176 c176 ((upS q gs gs.length).2 ++ [⟨q.kind, ((upS q gs (0 + 1)).2.length : Int) - 1, ((upS q gs (1 + 1)).2.length : Int) - 1, q.c, q.n⟩]) :: X) (.inl rfl) rfl rfl rfl (BlkRd.of_pick Wpk) (by rfl) Wsb ?_
                        have hl2 : gs.length = 2 := by
                          by_cases h8 : q.kind = 8
                          · have := hgk.1 h8; omega
                          · exact hgk.2 h8
                        have hu := upS_two q hl2
                        have e2 : upS q gs gs.length = upS q gs 2 := by rw [hl2]
                        rw [hfc, upS_full, e2, hu]
                        exact ⟨_, _, rfl, rfl⟩
              exact GAs.nil
            exact GAs.nil
          exact GAs.nil
        exact GAs.nil
theorem sFoldFormula_spec (w0 : World) (L : List Asn) (A : Option Addr) (c : Nat) (ps : List Part) (hR : Rd w0 L partE A c ps) (hl : ps.length ≤ 1100000) :
    Tr Try.prog 53 #[.agg #[.slice A ps.length c]] w0 L (fun v L' => ∃ B d, v = .agg #[.slice B (folF ps).length d] ∧ L' = row partE B d (folF ps) :: L) := by
  refine Tr.enter (args := [.agg #[.slice A ps.length c]]) Try.func53 Try.ntmps53 rfl rfl ?_
  refine GC.seq ?_
  refine GC.region ?_
  refine GL.box_agg rfl rfl ?_; intro g1
  refine GL.alloc rfl ?_; intro g2
  refine GL.nil ?_
  refine GE.seq ?_
  refine GC.seq ?_
  refine GC.seq ?_
  refine GC.region ?_
  refine GL.v Wlba ?_
  refine GL.callF rfl rfl (validFormula_spec _ _ _ _ _ Wrd Wom) ?_
  refine GL.v Wnt ?_
  refine GL.nil ?_
  refine GE.seq ?_
  refine GC.ifs (fun h1 => ?_) (fun h1 => ?_)
  · -- T
    refine GC.seq ?_
    refine GC.region ?_
    refine GL.v (by exact EvP.r (Ev.build rfl (by first | exact bdPart ⟨_, _, _, _, _⟩ | exact bdReader _ _ _ | exact bdPart4 _ _ _ _ | exact bdForm _ _ _ | exact bdForm0 | exact bdGraph0 | exact bdGraph _ _ _ | exact bdNode1 _ | exact bdNode2 _ _ _ _ | exact bdHist0 | exact bdHist1 _ _ _ | exact bdHist2 _ _ _ _ | exact bdAct1 _ | exact bdAct2 _ _ | exact bdAct3 _ _ _ | exact bdAct13 _ _ | exact bdSes _ _ _ _ _ _ _ _ _))) ?_
    refine GL.store_varN rfl rfl rfl Wpk (by rfl) (by rfl) (by rfl) ?_
    refine GL.nil ?_
    refine GE.seq ?_
    refine GC.ret ?_
    refine GE.seq_ret ?_
    -- returns, path T
    refine GE.state (fun _ hs => hs.empty partE none) ?_
    refine GE.ret_cell (L' := row partE none 0 [] :: L) (.inl rfl) rfl rfl rfl (BlkRd.of_pick Wpk) (by rfl) Wsb ?_
    have e : folF ps = [] := by simp [folF, h1]
    rw [e]
    exact ⟨none, 0, rfl, rfl⟩
  · -- F
    have hv := validF_iff.1 h1
    have hl1 := hv.1
    have hl2 := hv.2.1
    refine GC.skip ?_
    refine GE.seq ?_
    refine GC.seq ?_
    refine GC.region ?_
    refine GL.v Wlba ?_
    refine GL.v Wfa ?_
    refine GL.v Wlb ?_
    refine GL.v Wln ?_
    refine GL.v Wsu ?_
    refine GL.call rfl rfl (folded_spec w0 _ A c ps (hR.imp Wim) hv.2.2.1 hl2 ps.length (ps.length - 1) (by omega) (by omega) hl2 _ Imp.refl _ (by omega)) ?_
    rintro _ _ ⟨B, d, rfl, rfl⟩
    rw [← folF_yes hv]
    refine GL.store_varN rfl rfl rfl Wpk (by rfl) (by rfl) (by rfl) ?_
    refine GL.nil ?_
    refine GE.seq ?_
    refine GC.ret ?_
    -- returns, path F
    refine GE.ret_cell (L' := row partE B d (folF ps) :: L) (.inl rfl) rfl rfl rfl (BlkRd.of_pick Wpk) (by rfl) Wsb ?_
    exact ⟨B, d, rfl, rfl⟩
end SG
