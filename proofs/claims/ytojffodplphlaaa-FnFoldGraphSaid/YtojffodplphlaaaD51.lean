/- Contracts: folded formulas, of the program. -/
import Derived.Test.YtojffodplphlaaaD50
namespace SG
open Go Go.RowKit Go.Proofs
set_option linter.unusedVariables false
set_option linter.unusedSimpArgs false
set_option maxRecDepth 100000
theorem EvR.cast {P : Program} {w0 : World} {N : Nat} {o : Oper} {F : Env} {L : List Asn} {v v' : Value} (h : v = v') (e : EvR P w0 N o F L v) : EvR P w0 N o F L v' := h ▸ e
theorem Part.cells_get (p : Part) (j : Nat) (h : j < 3) : p.cells[j + 1]? = some (.int .i64 (p.get3 (j + 1))) := by
  match j, h with
  | 0, _ => rfl
  | 1, _ => rfl
  | 2, _ => rfl
theorem fold1_spec (w0 : World) (L : List Asn) (A : Option Addr) (c : Nat) (T : List Part) (hR : Rd w0 L partE A c T) (h1 : 1 ≤ T.length) (hl : T.length ≤ 1000000) :
    Tr Try.prog 144 #[.agg #[.slice A T.length c]] w0 L (fun v L' => v = .tuple #[.int .i64 (lastP T).n, .bool (decide ((lastP T).kind = 0))] ∧ L' = L) := by
  have e : ∀ k, k = T.length - 1 → ∀ (h : k < T.length), T[k] = lastP T := fun k hk h => by subst hk; exact (lastP_get (by omega)).symm
  refine Tr.enter (args := [.agg #[.slice A T.length c]]) Try.func144 Try.ntmps144 rfl rfl ?_
  refine GC.seq ?_
  refine GC.region ?_
  refine GL.box_agg rfl rfl ?_; intro g1
  refine GL.v Wag ?_
  refine GL.v Wag ?_
  refine GL.nil ?_
  refine GE.seq ?_
  refine GC.seq ?_
  refine GC.region_quiet mixed (by kernel_rfl) ?_
  refine GL.v Wfa ?_
  refine GL.v Wlb ?_
  refine GL.v Wlba ?_
  refine GL.callF rfl rfl (last_spec _ _ _ _ _ (by omega)) ?_
  refine GL.v Wix ?_
  refine GL.v Wfa ?_
  refine GL.v Wlef ?_
  refine GL.v Wfa ?_
  refine GL.v Wlb ?_
  refine GL.v Wlba ?_
  refine GL.callF rfl rfl (last_spec _ _ _ _ _ (by omega)) ?_
  refine GL.v Wix ?_
  refine GL.v Wfa ?_
  refine GL.v Wlef ?_
  refine GL.v Weq ?_
  refine GL.v Wag ?_
  refine GL.v Wag ?_
  refine GL.nil ?_
  refine GE.seq ?_
  refine GC.ret ?_
  -- returns, path 
  refine GE.ret_tmp2 (L' := L) (.inl rfl) rfl rfl rfl Wsb ?_
  rw [e _ (by omega)]
  exact ⟨rfl, rfl⟩
theorem fold_spec (w0 : World) (L : List Asn) (A : Option Addr) (c : Nat) (ps : List Part) (hR : Rd w0 L partE A c ps) (hv : ∀ i (h : i < ps.length), GoodAt ps[i] i) (hl : ps.length ≤ 12) :
    ∀ (f i : Nat) (hi : i < ps.length) (hf : i < f) (hf12 : f ≤ 12) (X : List Asn) (hX : Imp w0 X L) (k : Int) (hk : k = i),
    Tr Try.prog 106 #[.agg #[.slice A ps.length c], .int .i64 k] w0 X (fun v L' => ∃ B d, v = .agg #[.slice B (foldL ps f i).length d] ∧ L' = row partE B d (foldL ps f i) :: X) := by
  intro f
  induction f with
  | zero => intro i _ hf; omega
  | succ f ih =>
    intro i hi hf hf12 X hX k hk
    subst hk
    have hg := hv i hi
    have hRX := hR.imp hX
    have h4 : 3 ^ f ≤ 177147 := Nat.pow_le_pow_right (by decide) (show f ≤ 11 by omega)
    obtain ⟨q, hq⟩ : ∃ q, ps[i] = q := ⟨_, rfl⟩
    have hfo : foldL ps (f + 1) i = foldP q ((belowL q).map fun k => foldL ps f k.toNat) := by rw [foldL_some hi, hq]
    rw [hq] at hg
    have hbl := belowL_three q
    obtain ⟨gs, hgs⟩ : ∃ gs, (belowL q).map (fun k => foldL ps f k.toNat) = gs := ⟨_, rfl⟩
    rw [hgs] at hfo
    have hgl : gs.length = (belowL q).length := by rw [← hgs, List.length_map]
    have hgb : ∀ g ∈ gs, g.length ≤ 100000 := fun g hm => by
      rw [← hgs] at hm
      obtain ⟨k, _, rfl⟩ := List.mem_map.1 hm
      have := foldL_bound ps f k.toNat
      omega
    have hgi : ∀ j (h : j < gs.length), ∃ k : Nat, k < f ∧ k < ps.length ∧ gs[j] = foldL ps f k := fun j h => by
      have hj : j < (belowL q).length := by omega
      have hb := hg.2 _ (List.getElem_mem hj)
      exact ⟨((belowL q)[j]).toNat, by omega, by omega, by simp only [← hgs, List.getElem_map]⟩
    have hlast : ∀ j (h : j < gs.length), InMod (lastP gs[j]).n := fun j h => by
      obtain ⟨k, k1, k2, e⟩ := hgi j h
      rw [e]; exact foldL_last hv k1 k2
    have hlow : ∀ j (h : j < gs.length), 1 ≤ gs[j].length ∧ (isNum gs[j] → 0 ≤ (lastP gs[j]).n ∧ (lastP gs[j]).n ≤ 99) := fun j h => by
      obtain ⟨k, k1, k2, e⟩ := hgi j h
      rw [e]; exact foldL_low hv k1 k2
    rw [hfo]
    refine Tr.enter (args := [.agg #[.slice A ps.length c], .int .i64 i]) Try.func106 Try.ntmps106 rfl rfl ?_
    refine GC.seq ?_
    refine GC.region ?_
    refine GL.box_agg rfl rfl ?_; intro g2
    refine GL.alloc rfl ?_; intro g4
    refine GL.nil ?_
    refine GE.seq ?_
    refine GC.seq ?_
    refine GC.region ?_
    refine GL.v Wfa ?_
    refine GL.v Wlb ?_
    refine GL.v Wmv ?_
    refine GL.v Wix ?_
    refine GL.v Wle ?_
    rw [show partE.val ps[i] = .agg #[.int .i64 q.kind, .int .i64 q.a, .int .i64 q.b, .int .i64 q.c, .int .i64 q.n] by rw [hq]; rfl]
    refine GL.alloc rfl ?_; intro g5
    refine GL.store_varN rfl rfl rfl Wpk (by rfl) (by rfl) (by rfl) ?_
    refine GL.nil ?_
    refine GE.seq ?_
    refine GC.seq ?_
    refine GC.region ?_
    refine GL.v Wag ?_
    refine GL.nil ?_
    refine GE.seq ?_
    refine GC.seq ?_
    refine GC.seq ?_
    refine GC.region ?_
    refine GL.v Wlba ?_
    refine GL.call rfl rfl (below_spec _ _ _) ?_; rintro _ _ ⟨A32, c32, rfl, rfl⟩
    refine GL.v Wln ?_
    refine GL.v Wmv ?_
    refine GL.nil ?_
    refine GE.seq ?_
    refine GC.block ?_
    -- loop 1: carried slots [6, 34]
    refine GC.forms0 ?_
    refine GC.state (fun _ hs => hs.empty formE none) ?_
    refine GC.loopK (α := Nat × Option Addr × Nat × List FoM) (fun x => x.1 ≤ (belowL q).length ∧ x.2.2.2.length = x.1 ∧ fo x.2.2.2 = gs.take x.1) (fun x => [(6, .slice x.2.1 x.2.2.2.length x.2.2.1), (34, .int .i64 x.1)]) [(2, _), (4, _), (5, _), (32, _), (33, _)] (fun x => row formE x.2.1 x.2.2.1 x.2.2.2 :: formsA x.2.2.2 :: row intE A32 c32 (belowL q) :: blk g5 103 [.int .i64 q.kind, .int .i64 q.a, .int .i64 q.b, .int .i64 q.c, .int .i64 q.n] :: blk g2 35 [.slice A ps.length c] :: blk g4 35 [.slice none 0 0] :: X) (fun x => (belowL q).length - x.1) (0, none, 0, []) Wkp Wsb ⟨Nat.zero_le _, rfl, by simp [fo]⟩ ?_
    rintro ⟨k, E, e, fs⟩ ⟨hk, hfl, hfo2⟩
    dsimp only at hk hfl hfo2 ⊢
    refine GC.seq ?_
    refine GC.region ?_
    refine GL.v Wls ?_
    refine GL.nil ?_
    refine GE.seq ?_
    refine GC.seq ?_
    refine GC.ifs (fun h1 => ?_) (fun h1 => ?_)
    · -- T
      have hkl : k < (belowL q).length := by omega
      have hgk := hg.2 _ (List.getElem_mem hkl)
      have hgt : gs.take (k + 1) = gs.take k ++ [foldL ps f ((belowL q)[k]).toNat] := by
        rw [List.take_succ_eq_append_getElem (by omega)]
        congr 2
        simp only [← hgs, List.getElem_map]
      refine GC.skip ?_
      refine GE.seq ?_
      refine GC.seq ?_
      refine GC.block ?_
      refine GC.seq ?_
      refine GC.region ?_
      refine GL.v Wix ?_
      refine GL.v Wle ?_
      refine GL.v Wag ?_
      refine GL.nil ?_
      refine GE.seq ?_
      refine GC.region ?_
      refine GL.v Wmv ?_
      refine GL.v Wlba ?_
      refine GL.v Wmv ?_
      refine GL.call rfl rfl (ih ((belowL q)[k]).toNat (by omega) (by omega) (by omega) _ (by repeat (first | exact hX | refine Imp.cons ?_)) _ (by omega)) ?_
      rintro _ _ ⟨B41, d41, rfl, rfl⟩
      refine GL.buildSlice rfl (by first | exact bsInt0 | exact bsInt1 _ | exact bsInt2 _ _ | exact bsInt3 _ _ _ | exact bsInt4 _ _ _ _ | exact bsInt5 _ _ _ _ _ | exact bsInt6 _ _ _ _ _ _ | exact bsInt7 _ _ _ _ _ _ _ | exact bsInt8 _ _ _ _ _ _ _ _ | exact bsInt9 _ _ _ _ _ _ _ _ _ | exact bsInt10 _ _ _ _ _ _ _ _ _ _ | exact bsPart0 | exact bsPart1 ⟨_, _, _, _, _⟩ | exact bsNode1 ⟨_, _, _, _⟩ | exact bsPtr3 _ _ _ | exact bsSl0 | exact bsSl1 ⟨_, _, _⟩ | exact bsForm0 | exact bsForm1 ⟨_, _, _⟩ | exact bsAct0 | exact bsBool0 | exact bsAct1 ⟨_, _, _⟩) rfl (by decide) rfl ?_; intro g42
      first | (refine GL.append rfl rfl Wpk (by assumption) Wim (by first | rfl | (simp; done) | (simp; omega)) (by first | rfl | (simp; done) | (simp; omega)) (by first | omega | (simp; omega)) (by first | omega | (simp; omega)) rfl ?_; intro A43 c43) | (refine GL.append rfl rfl Wpk (Rd.of_pick Wpk) Imp.refl (by first | rfl | (simp; done) | (simp; omega)) (by first | rfl | (simp; done) | (simp; omega)) (by first | omega | (simp; omega)) (by first | omega | (simp; omega)) rfl ?_; intro A43 c43)
      refine GL.v Wag ?_
      refine GL.nil ?_
      refine GE.block ?_
      refine GE.seq ?_
      refine GC.region ?_
      refine GL.v Wad ?_
      refine GL.v Wmv ?_
      refine GL.nil ?_
      -- round of loop 1, path T
      refine GE.forms_snoc ⟨B41, d41, foldL ps f ((belowL q)[k]).toNat⟩ Wpk Wpk ?_
      refine GE.round (k + 1, _, _, fs ++ [⟨B41, d41, foldL ps f ((belowL q)[k]).toNat⟩]) ⟨by dsimp only; omega, by simp [hfl], ?_⟩ (by dsimp only; omega) Wkp Wsb
      dsimp only
      rw [hgt, ← hfo2]
      simp [fo]
    · -- F
      obtain rfl : k = (belowL q).length := by omega
      rw [List.take_of_length_le (by omega)] at hfo2
      have hfg : fs.length = gs.length := by omega
      have hfi : ∀ j (h : j < fs.length) (h' : j < gs.length), fs[j].parts = gs[j] := fun j h h' => by
        have h1 : (fo fs)[j]'(by simpa using h) = fs[j].parts := fo_get _
        rw [← h1]; simp only [hfo2]
      have hgk : (q.kind = 8 → gs.length = 3) ∧ (q.kind ≠ 8 → gs.length = 2 ∨ gs.length = 0) := by
        rw [hgl]
        rcases good_kind hg with h | h | h | h
        · rw [belowL_leaf (.inl h)]; exact ⟨fun h8 => by omega, fun _ => .inr rfl⟩
        · rw [belowL_leaf (.inr h)]; exact ⟨fun h8 => by omega, fun _ => .inr rfl⟩
        · rw [belowL_bin h]; exact ⟨fun h8 => by omega, fun _ => .inl rfl⟩
        · rw [belowL_if h]; exact ⟨fun _ => rfl, fun h8 => absurd h h8⟩
      have hF : ∀ j (h : j < fs.length), Rd w0 (row formE E e fs :: formsA fs :: row intE A32 c32 (belowL q) :: blk g5 103 [.int .i64 q.kind, .int .i64 q.a, .int .i64 q.b, .int .i64 q.c, .int .i64 q.n] :: blk g2 35 [.slice A ps.length c] :: blk g4 35 [.slice none 0 0] :: X) partE fs[j].a fs[j].c fs[j].parts := fun j h => Rd.of_forms Wpk (List.getElem_mem h)
      have hb2 : ∀ j (h : j < fs.length), 1 ≤ fs[j].parts.length ∧ fs[j].parts.length ≤ 100000 ∧ gs.getD j [] = fs[j].parts := fun j h => by
        have hj : j < gs.length := by omega
        rw [hfi j h hj]
        exact ⟨(hlow j hj).1, hgb _ (List.getElem_mem hj), by simp [List.getD_eq_getElem?_getD, List.getElem?_eq_getElem hj]⟩
      refine GC.exit ?_
      refine GE.seq_exit ?_
      refine GE.loop_exit ?_
      refine GE.block_exit ?_
      refine GE.seq ?_
      refine GC.seq ?_
      refine GC.region ?_
      refine GL.v Wag ?_
      refine GL.nil ?_
      refine GE.seq ?_
      -- midblock 2: carried slots []
      refine GC.seq_mid (β := Unit) (fun _ => foldP q gs = foldC q gs) (fun _ => []) [(4, _), (5, _), (6, _), (9, _)] (fun _ => row formE E e fs :: formsA fs :: row intE A32 c32 (belowL q) :: blk g5 103 [.int .i64 q.kind, .int .i64 q.a, .int .i64 q.b, .int .i64 q.c, .int .i64 q.n] :: blk g2 35 [.slice A ps.length c] :: blk g4 35 [.slice none 0 0] :: X) Wkp ?_ ?_
      ·
        refine GC.block ?_
        refine GC.seq ?_
        refine GC.region ?_
        refine GL.v Wfa ?_
        refine GL.v Wlb ?_
        refine GL.v Weq ?_
        refine GL.v Wag ?_
        refine GL.nil ?_
        refine GE.seq ?_
        refine GC.ifs (fun h2 => ?_) (fun h2 => ?_)
        · -- FT
          refine GC.seq ?_
          refine GC.region ?_
          have h8l := hgk.1 h2
          have h0f : 0 < fs.length := by omega
          have h1f : 1 < fs.length := by omega
          have h2f : 2 < fs.length := by omega
          have hF0 := hF 0 h0f
          have hb0 := hb2 0 h0f
          have hb1 := hb2 1 h1f
          have hb3 := hb2 2 h2f
          refine GL.v Wmv ?_
          refine GL.v Wmv ?_
          refine GL.v (Ev.index (k := 0) rfl rfl (Rd.of_pick Wpk) Imp.refl rfl (by omega) (Nat.le_refl _)) ?_
          refine GL.v Wle ?_
          refine GL.callQ rfl rfl rfl (fold1_spec w0 _ fs[0].a fs[0].c fs[0].parts Wrd (by omega) (by omega)) ?_
          refine GL.v Wmv ?_
          refine GL.v Wxt ?_
          refine GL.v Wxt ?_
          refine GL.v Wag ?_
          refine GL.v Wag ?_
          refine GL.nil ?_
          refine GE.seq ?_
          refine GC.seq ?_
          refine GC.region ?_
          refine GL.v Wmv ?_
          refine GL.nil ?_
          refine GE.seq ?_
          refine GC.ifs (fun h3 => ?_) (fun h3 => ?_)
          · -- FTT
            refine GC.seq ?_
            refine GC.seq ?_
            refine GC.region ?_
            refine GL.v Wmv ?_
            refine GL.v Wnq ?_
            refine GL.nil ?_
            refine GE.seq ?_
            refine GC.ifs (fun h4 => ?_) (fun h4 => ?_)
            · -- FTTT
              refine GC.seq ?_
              refine GC.region ?_
              refine GL.v Wmv ?_
              refine GL.v (Ev.index (k := 1) rfl rfl (Rd.of_pick Wpk) Imp.refl rfl (by omega) (Nat.le_refl _)) ?_
              refine GL.v Wle ?_
              refine GL.store_varN rfl rfl rfl Wpk (by rfl) (by rfl) (by rfl) ?_
              refine GL.nil ?_
              refine GE.seq ?_
              refine GC.ret ?_
              refine GE.seq_ret ?_
              refine GE.block_ret ?_
              refine GE.loop_ret ?_
              -- returns, path FTTT
              refine GE.state (fun w hs => St.forms_out h1f Wpk hs) ?_
              refine GE.ret_cell (L' := row partE fs[1].a fs[1].c fs[1].parts :: X) (.inl rfl) rfl rfl rfl (BlkRd.of_pick Wpk) (by rfl) Wsb ?_
              rw [foldP_one h2 (by unfold isNum; rw [hb0.2.2]; exact h3) (by rw [hb0.2.2]; exact h4), hb1.2.2]
              exact ⟨_, _, rfl, rfl⟩
            · -- FTTF
              refine GC.skip ?_
              refine GE.seq ?_
              refine GC.seq ?_
              refine GC.region ?_
              refine GL.v Wmv ?_
              refine GL.v (Ev.index (k := 2) rfl rfl (Rd.of_pick Wpk) Imp.refl rfl (by omega) (Nat.le_refl _)) ?_
              refine GL.v Wle ?_
              refine GL.store_varN rfl rfl rfl Wpk (by rfl) (by rfl) (by rfl) ?_
              refine GL.nil ?_
              refine GE.seq ?_
              refine GC.ret ?_
              refine GE.block_ret ?_
              refine GE.loop_ret ?_
              -- returns, path FTTF
              refine GE.state (fun w hs => St.forms_out h2f Wpk hs) ?_
              refine GE.ret_cell (L' := row partE fs[2].a fs[2].c fs[2].parts :: X) (.inl rfl) rfl rfl rfl (BlkRd.of_pick Wpk) (by rfl) Wsb ?_
              rw [foldP_two h2 (by unfold isNum; rw [hb0.2.2]; exact h3) (by rw [hb0.2.2]; exact h4), hb3.2.2]
              exact ⟨_, _, rfl, rfl⟩
          · -- FTF
            refine GC.skip ?_
            refine GE.block ?_
            refine GE.mid () (foldP_put (fun hh => h3 (by have := hh.2; unfold isNum at this; rw [hb0.2.2] at this; exact this)) (fun hh => hh.1 h2)) Wkp Wsb
        · -- FF
          refine GC.seq ?_
          refine GC.region ?_
          refine GL.v Wmv ?_
          refine GL.v Wln ?_
          refine GL.v Weq ?_
          refine GL.v Wag ?_
          refine GL.nil ?_
          refine GE.seq ?_
          refine GC.ifs (fun h3 => ?_) (fun h3 => ?_)
          · -- FFT
            refine GC.seq ?_
            refine GC.region ?_
            have h2l : gs.length = 2 := by omega
            have h0f : 0 < fs.length := by omega
            have h1f : 1 < fs.length := by omega
            have hF0 := hF 0 h0f
            have hF1 := hF 1 h1f
            have hb0 := hb2 0 h0f
            have hb1 := hb2 1 h1f
            have hi0 : InMod (lastP fs[0].parts).n := by rw [hfi 0 h0f (by omega)]; exact hlast 0 (by omega)
            have hi1 : InMod (lastP fs[1].parts).n := by rw [hfi 1 h1f (by omega)]; exact hlast 1 (by omega)
            refine GL.v Wmv ?_
            refine GL.v Wmv ?_
            refine GL.v (Ev.index (k := 0) rfl rfl (Rd.of_pick Wpk) Imp.refl rfl (by omega) (Nat.le_refl _)) ?_
            refine GL.v Wle ?_
            refine GL.callQ rfl rfl rfl (fold1_spec w0 _ fs[0].a fs[0].c fs[0].parts Wrd (by omega) (by omega)) ?_
            refine GL.v Wmv ?_
            refine GL.v Wxt ?_
            refine GL.v Wxt ?_
            refine GL.v Wag ?_
            refine GL.v Wag ?_
            refine GL.nil ?_
            refine GE.seq ?_
            refine GC.seq ?_
            refine GC.region ?_
            refine GL.v Wmv ?_
            refine GL.v Wmv ?_
            refine GL.v (Ev.index (k := 1) rfl rfl (Rd.of_pick Wpk) Imp.refl rfl (by omega) (Nat.le_refl _)) ?_
            refine GL.v Wle ?_
            refine GL.callQ rfl rfl rfl (fold1_spec w0 _ fs[1].a fs[1].c fs[1].parts Wrd (by omega) (by omega)) ?_
            refine GL.v Wmv ?_
            refine GL.v Wxt ?_
            refine GL.v Wxt ?_
            refine GL.v Wag ?_
            refine GL.v Wag ?_
            refine GL.nil ?_
            refine GE.seq ?_
            refine GC.seq ?_
            refine GC.region ?_
            refine GL.v Wfa ?_
            refine GL.v Wlb ?_
            refine GL.v Wmv ?_
            refine GL.v Wmv ?_
            refine GL.callF rfl rfl (join_spec _ _ _ _ _ (by assumption) (by assumption)) ?_
            refine GL.v Wag ?_
            refine GL.nil ?_
            refine GE.seq ?_
            refine GC.seq ?_
            refine GC.region ?_
            refine GL.v Wmv ?_
            refine GL.v Wmv ?_
            refine GL.gs (fun h4 => ?_) (fun h4 => ?_)
            · -- FFTt
              refine GL.want rfl rfl ?_
              refine GL.v Wmv ?_
              refine GL.v Wpt ?_
              refine GL.v Wmv ?_
              refine GL.gs (fun h5 => ?_) (fun h5 => ?_)
              · -- FFTtt
                refine GL.want rfl rfl ?_
                refine GL.v Wmv ?_
                refine GL.want rfl rfl ?_
                refine GL.v Wlq ?_
                refine GL.v Wpt ?_
                refine GL.nil ?_
                refine GE.seq ?_
                refine GC.ifs (fun h6 => ?_) (fun h6 => ?_)
                · -- FFTttT
                  refine GC.seq ?_
                  refine GC.region ?_
                  refine GL.v Wmv ?_
                  refine GL.v (by exact EvP.r (Ev.build rfl (by first | exact bdPart ⟨_, _, _, _, _⟩ | exact bdReader _ _ _ | exact bdPart4 _ _ _ _ | exact bdForm _ _ _ | exact bdForm0 | exact bdGraph0 | exact bdGraph _ _ _ | exact bdNode1 _ | exact bdNode2 _ _ _ _ | exact bdHist0 | exact bdHist1 _ _ _ | exact bdHist2 _ _ _ _ | exact bdAct1 _ | exact bdAct2 _ _ | exact bdAct3 _ _ _ | exact bdAct13 _ _ | exact bdSes _ _ _ _ _ _ _ _ _))) ?_
                  refine GL.buildSlice rfl (by first | exact bsInt0 | exact bsInt1 _ | exact bsInt2 _ _ | exact bsInt3 _ _ _ | exact bsInt4 _ _ _ _ | exact bsInt5 _ _ _ _ _ | exact bsInt6 _ _ _ _ _ _ | exact bsInt7 _ _ _ _ _ _ _ | exact bsInt8 _ _ _ _ _ _ _ _ | exact bsInt9 _ _ _ _ _ _ _ _ _ | exact bsInt10 _ _ _ _ _ _ _ _ _ _ | exact bsPart0 | exact bsPart1 ⟨_, _, _, _, _⟩ | exact bsNode1 ⟨_, _, _, _⟩ | exact bsPtr3 _ _ _ | exact bsSl0 | exact bsSl1 ⟨_, _, _⟩ | exact bsForm0 | exact bsForm1 ⟨_, _, _⟩ | exact bsAct0 | exact bsBool0 | exact bsAct1 ⟨_, _, _⟩) rfl (by decide) rfl ?_; intro g101
                  refine GL.v (by exact EvP.r (Ev.build rfl (by first | exact bdPart ⟨_, _, _, _, _⟩ | exact bdReader _ _ _ | exact bdPart4 _ _ _ _ | exact bdForm _ _ _ | exact bdForm0 | exact bdGraph0 | exact bdGraph _ _ _ | exact bdNode1 _ | exact bdNode2 _ _ _ _ | exact bdHist0 | exact bdHist1 _ _ _ | exact bdHist2 _ _ _ _ | exact bdAct1 _ | exact bdAct2 _ _ | exact bdAct3 _ _ _ | exact bdAct13 _ _ | exact bdSes _ _ _ _ _ _ _ _ _))) ?_
                  refine GL.store_varN rfl rfl rfl Wpk (by rfl) (by rfl) (by rfl) ?_
                  refine GL.nil ?_
                  refine GE.seq ?_
                  refine GC.ret ?_
                  refine GE.block_ret ?_
                  refine GE.loop_ret ?_
                  -- returns, path FFTttT
                  refine GE.ret_cell (L' := row partE (some ⟨g101, 0, none⟩) 1 [numPart (joinI q.kind (lastP fs[0].parts).n (lastP fs[1].parts).n)] :: X) (.inl rfl) rfl rfl rfl (BlkRd.of_pick Wpk) (by rfl) Wsb ?_
                  rw [foldP_num h2 h2l (by unfold isNum; rw [hb0.2.2]; exact h4) (by unfold isNum; rw [hb1.2.2]; exact h5) (by rw [hb0.2.2, hb1.2.2]; exact h6), hb0.2.2, hb1.2.2]
                  exact ⟨_, _, rfl, rfl⟩
                · -- FFTttF
                  refine GC.skip ?_
                  refine GE.block ?_
                  refine GE.mid () (foldP_put (fun hh => h2 hh.1) (fun hh => h6 (by have := hh.2.2.2.2; rw [hb0.2.2, hb1.2.2] at this; exact this))) Wkp Wsb
              · -- FFTtf
                refine GL.unwant rfl rfl rfl rfl ?_
                refine GL.unwant rfl rfl rfl rfl ?_
                refine GL.v Wpf ?_
                refine GL.nil ?_
                refine GE.seq ?_
                refine GC.cond_false rfl ?_
                refine GC.skip ?_
                refine GE.block ?_
                refine GE.mid () (foldP_put (fun hh => h2 hh.1) (fun hh => h5 (by have := hh.2.2.2.1; unfold isNum at this; rw [hb1.2.2] at this; exact this))) Wkp Wsb
            · -- FFTf
              refine GL.unwant rfl rfl rfl rfl ?_
              refine GL.v Wpf ?_
              refine GL.v Wmv ?_
              refine GL.unwant rfl rfl rfl rfl ?_
              refine GL.unwant rfl rfl rfl rfl ?_
              refine GL.v Wpf ?_
              refine GL.nil ?_
              refine GE.seq ?_
              refine GC.cond_false rfl ?_
              refine GC.skip ?_
              refine GE.block ?_
              refine GE.mid () (foldP_put (fun hh => h2 hh.1) (fun hh => h4 (by have := hh.2.2.1; unfold isNum at this; rw [hb0.2.2] at this; exact this))) Wkp Wsb
          · -- FFF
            refine GC.skip ?_
            refine GE.block ?_
            refine GE.mid () (foldP_put (fun hh => h2 hh.1) (fun hh => h3 (by have := hh.2.1; omega))) Wkp Wsb
      ·
        rintro ⟨⟩ hfc
        refine GC.seq ?_
        refine GC.region ?_
        refine GL.alloc rfl ?_; intro g17
        refine GL.nil ?_
        refine GE.seq ?_
        refine GC.seq ?_
        refine GC.region ?_
        refine GL.v Wfa ?_
        refine GL.v Wfa ?_
        refine GL.v Wfa ?_
        refine GL.buildSlice rfl (by first | exact bsInt0 | exact bsInt1 _ | exact bsInt2 _ _ | exact bsInt3 _ _ _ | exact bsInt4 _ _ _ _ | exact bsInt5 _ _ _ _ _ | exact bsInt6 _ _ _ _ _ _ | exact bsInt7 _ _ _ _ _ _ _ | exact bsInt8 _ _ _ _ _ _ _ _ | exact bsInt9 _ _ _ _ _ _ _ _ _ | exact bsInt10 _ _ _ _ _ _ _ _ _ _ | exact bsPart0 | exact bsPart1 ⟨_, _, _, _, _⟩ | exact bsNode1 ⟨_, _, _, _⟩ | exact bsPtr3 _ _ _ | exact bsSl0 | exact bsSl1 ⟨_, _, _⟩ | exact bsForm0 | exact bsForm1 ⟨_, _, _⟩ | exact bsAct0 | exact bsBool0 | exact bsAct1 ⟨_, _, _⟩) rfl (by decide) rfl ?_; intro g106
        refine GL.v Wag ?_
        refine GL.nil ?_
        refine GE.seq ?_
        refine GC.seq ?_
        refine GC.seq ?_
        refine GC.region ?_
        refine GL.v Wmv ?_
        refine GL.v Wln ?_
        refine GL.v Wmv ?_
        refine GL.nil ?_
        refine GE.seq ?_
        refine GC.block ?_
        -- loop 2: carried slots [109]
        refine GC.state (fun _ hs => hs.empty partE none) ?_
        refine GC.loopK (α := Nat × Option Addr × Nat) (fun x => x.1 ≤ gs.length) (fun x => [(109, .int .i64 x.1)]) [(4, _), (5, _), (17, _), (18, _), (107, _), (108, _)] (fun x => blk g17 35 [.slice x.2.1 (upS q gs x.1).2.length x.2.2] :: row partE x.2.1 x.2.2 (upS q gs x.1).2 :: blk g5 103 (upS q gs x.1).1.cells :: row ptrE (some ⟨g106, 0, none⟩) 3 [some ((⟨g5, 0, none⟩ : Addr).add 1), some ((⟨g5, 0, none⟩ : Addr).add 2), some ((⟨g5, 0, none⟩ : Addr).add 3)] :: row formE E e fs :: formsA fs :: blk g2 35 [.slice A ps.length c] :: blk g4 35 [.slice none 0 0] :: X) (fun x => gs.length - x.1) (0, none, 0) Wkp Wsb (Nat.zero_le _) ?_
        rintro ⟨k, E1, e1⟩ hk
        dsimp only at hk ⊢
        have hul := upS_length q hgb k hk
        refine GC.seq ?_
        refine GC.region ?_
        refine GL.v Wls ?_
        refine GL.nil ?_
        refine GE.seq ?_
        refine GC.seq ?_
        refine GC.ifs (fun h2 => ?_) (fun h2 => ?_)
        · -- FT
          refine GC.skip ?_
          refine GE.seq ?_
          refine GC.seq ?_
          refine GC.block ?_
          refine GC.seq ?_
          refine GC.region ?_
          have hkl : k < gs.length := by omega
          have hkf : k < fs.length := by omega
          have hpk := hfi k hkf hkl
          have hgk2 := hgb _ (List.getElem_mem hkl)
          rw [← hpk] at hgk2
          have hk3 : k ≤ 2 := by omega
          obtain ⟨kk, kk1, kk2, kke⟩ := hgi k hkl
          have hsm := foldL_small hv kk1 kk2
          rw [← kke, ← hpk] at hsm
          refine GL.v Wmv ?_
          refine GL.v Wix ?_
          refine GL.v Wle ?_
          refine GL.alloc rfl ?_; intro g20
          refine GL.v Wag ?_
          refine GL.store_varN rfl rfl rfl Wpk (by rfl) (by rfl) (by rfl) ?_
          refine GL.nil ?_
          refine GE.seq ?_
          refine GC.seq ?_
          refine GC.region ?_
          refine GL.v Wfa ?_
          refine GL.v Wlb ?_
          refine GL.v Wln ?_
          refine GL.v Wag ?_
          refine GL.nil ?_
          refine GE.seq ?_
          refine GC.seq ?_
          refine GC.seq ?_
          refine GC.region ?_
          refine GL.v Wfa ?_
          refine GL.v Wlb ?_
          refine GL.v Wln ?_
          refine GL.v Wmv ?_
          refine GL.nil ?_
          refine GE.seq ?_
          refine GC.block ?_
          -- loop 3: carried slots [120]
          refine GC.loopK (α := Nat × Option Addr × Nat) (fun y => y.1 ≤ fs[k].parts.length) (fun y => [(120, .int .i64 y.1)]) [(4, _), (5, _), (17, _), (18, _), (19, _), (21, _), (107, _), (108, _), (109, _), (118, _), (119, _)] (fun y => blk g17 35 [.slice y.2.1 (inS (upS q gs k).2 fs[k].parts y.1).length y.2.2] :: row partE y.2.1 y.2.2 (inS (upS q gs k).2 fs[k].parts y.1) :: blk g5 103 (upS q gs k).1.cells :: row ptrE (some ⟨g106, 0, none⟩) 3 [some ((⟨g5, 0, none⟩ : Addr).add 1), some ((⟨g5, 0, none⟩ : Addr).add 2), some ((⟨g5, 0, none⟩ : Addr).add 3)] :: row formE E e fs :: formsA fs :: blk g2 35 [.slice A ps.length c] :: blk g4 35 [.slice none 0 0] :: X) (fun y => fs[k].parts.length - y.1) (0, E1, e1) Wkp (by dsimp only; rw [inS_zero]; exact Wsb) (Nat.zero_le _) ?_
          rintro ⟨m, E3, e3⟩ hm
          dsimp only at hm ⊢
          have hil := inS_length (upS q gs k).2 fs[k].parts m
          have hFk : Rd w0 (blk g17 35 [.slice E3 (inS (upS q gs k).2 fs[k].parts m).length e3] :: row partE E3 e3 (inS (upS q gs k).2 fs[k].parts m) :: blk g5 103 (upS q gs k).1.cells :: row ptrE (some ⟨g106, 0, none⟩) 3 [some ((⟨g5, 0, none⟩ : Addr).add 1), some ((⟨g5, 0, none⟩ : Addr).add 2), some ((⟨g5, 0, none⟩ : Addr).add 3)] :: row formE E e fs :: formsA fs :: blk g2 35 [.slice A ps.length c] :: blk g4 35 [.slice none 0 0] :: X) partE fs[k].a fs[k].c fs[k].parts := Rd.of_forms Wpk (List.getElem_mem hkf)
          refine GC.seq ?_
          refine GC.region ?_
          refine GL.v Wls ?_
          refine GL.nil ?_
          refine GE.seq ?_
          refine GC.seq ?_
          refine GC.ifs (fun h3 => ?_) (fun h3 => ?_)
          · -- FTT
            refine GC.skip ?_
            refine GE.seq ?_
            refine GC.seq ?_
            refine GC.block ?_
            refine GC.seq ?_
            refine GC.region ?_
            have hml : m < fs[k].parts.length := by omega
            have hbd := hsm _ (List.getElem_mem hml)
            obtain ⟨p, hp⟩ : ∃ p, fs[k].parts[m] = p := ⟨_, rfl⟩
            have hin := inS_succ (upS q gs k).2 hml
            rw [hp] at hbd hin
            refine GL.v Wix ?_
            refine GL.v Wle ?_
            rw [show partE.val fs[k].parts[m] = .agg #[.int .i64 p.kind, .int .i64 p.a, .int .i64 p.b, .int .i64 p.c, .int .i64 p.n] by rw [hp]; rfl]
            refine GL.alloc rfl ?_; intro g23
            refine GL.store_varN rfl rfl rfl Wpk (by rfl) (by rfl) (by rfl) ?_
            refine GL.nil ?_
            refine GE.seq ?_
            refine GC.seq ?_
            refine GC.seq ?_
            refine GC.region ?_
            refine GL.v Wfa ?_
            refine GL.v Wfa ?_
            refine GL.v Wfa ?_
            refine GL.buildSlice rfl (by first | exact bsInt0 | exact bsInt1 _ | exact bsInt2 _ _ | exact bsInt3 _ _ _ | exact bsInt4 _ _ _ _ | exact bsInt5 _ _ _ _ _ | exact bsInt6 _ _ _ _ _ _ | exact bsInt7 _ _ _ _ _ _ _ | exact bsInt8 _ _ _ _ _ _ _ _ | exact bsInt9 _ _ _ _ _ _ _ _ _ | exact bsInt10 _ _ _ _ _ _ _ _ _ _ | exact bsPart0 | exact bsPart1 ⟨_, _, _, _, _⟩ | exact bsNode1 ⟨_, _, _, _⟩ | exact bsPtr3 _ _ _ | exact bsSl0 | exact bsSl1 ⟨_, _, _⟩ | exact bsForm0 | exact bsForm1 ⟨_, _, _⟩ | exact bsAct0 | exact bsBool0 | exact bsAct1 ⟨_, _, _⟩) rfl (by decide) rfl ?_; intro g127
            refine GL.v Wln ?_
            refine GL.v Wmv ?_
            refine GL.nil ?_
            refine GE.seq ?_
            refine GC.block ?_
            -- loop 4: carried slots [129]
            refine GC.loopK (α := Nat) (fun j => j ≤ 3) (fun j => [(129, .int .i64 j)]) [(4, _), (5, _), (17, _), (18, _), (19, _), (21, _), (23, _), (107, _), (108, _), (109, _), (118, _), (119, _), (120, _), (127, _), (128, _)] (fun j => blk g23 103 (shJ (upS q gs k).2.length p j).cells :: row ptrE (some ⟨g127, 0, none⟩) 3 [some ((⟨g23, 0, none⟩ : Addr).add 1), some ((⟨g23, 0, none⟩ : Addr).add 2), some ((⟨g23, 0, none⟩ : Addr).add 3)] :: blk g17 35 [.slice E3 (inS (upS q gs k).2 fs[k].parts m).length e3] :: row partE E3 e3 (inS (upS q gs k).2 fs[k].parts m) :: blk g5 103 (upS q gs k).1.cells :: row ptrE (some ⟨g106, 0, none⟩) 3 [some ((⟨g5, 0, none⟩ : Addr).add 1), some ((⟨g5, 0, none⟩ : Addr).add 2), some ((⟨g5, 0, none⟩ : Addr).add 3)] :: row formE E e fs :: formsA fs :: blk g2 35 [.slice A ps.length c] :: blk g4 35 [.slice none 0 0] :: X) (fun j => 3 - j) 0 Wkp Wsb (Nat.zero_le _) ?_
            rintro j hj
            refine GC.seq ?_
            refine GC.region ?_
            refine GL.v Wls ?_
            refine GL.nil ?_
            refine GE.seq ?_
            refine GC.seq ?_
            refine GC.ifs (fun h4 => ?_) (fun h4 => ?_)
            · -- FTTT
              refine GC.skip ?_
              refine GE.seq ?_
              refine GC.seq ?_
              refine GC.block ?_
              refine GC.seq ?_
              refine GC.region ?_
              have hjl : j < 3 := by omega
              have hgj := shJ_get (n := (upS q gs k).2.length) (p := p) hjl
              have hgb3 := get3_le (p := p) (b := 100000) ⟨by omega, by omega, by omega⟩ (j + 1)
              refine GL.v Wix ?_
              refine GL.v Wle ?_
              rw [ptr3_get]
              refine GL.v Wag ?_
              refine GL.nil ?_
              refine GE.seq ?_
              refine GC.seq ?_
              refine GC.region ?_
              refine GL.v Wmv ?_
              refine GL.v Wnc ?_
              refine GL.v (Ev.load_blk (o := j + 1) rfl rfl (BlkRd.of_pick Wpk) Imp.refl (Part.cells_get _ _ hjl)) ?_
              refine GL.v Wgq ?_
              refine GL.nil ?_
              refine GE.seq ?_
              refine GC.ifs (fun h5 => ?_) (fun h5 => ?_)
              · -- FTTTT
                refine GC.region ?_
                refine GL.v Wmv ?_
                refine GL.v Wnc ?_
                refine GL.v (Ev.load_blk (o := j + 1) rfl rfl (BlkRd.of_pick Wpk) Imp.refl (Part.cells_get _ _ hjl)) ?_
                refine GL.v Wmv ?_
                refine GL.v Wad ?_
                refine GL.v Wnc ?_
                refine GL.store_blk (o := j + 1) rfl rfl rfl Wpk (by simp [Part.cells]; omega) rfl rfl ?_
                refine GL.nil ?_
                refine GE.block ?_
                refine GE.seq ?_
                refine GC.region ?_
                refine GL.v Wad ?_
                refine GL.v Wmv ?_
                refine GL.nil ?_
                -- round of loop 4, path FTTTT
                rw [Part.cells_set _ _ _ (by omega), shJ_yes h5]
                refine GE.round (j + 1) (by omega) (by omega) Wkp Wsb
              · -- FTTTF
                refine GC.skip ?_
                refine GE.block ?_
                refine GE.seq ?_
                refine GC.region ?_
                refine GL.v Wad ?_
                refine GL.v Wmv ?_
                refine GL.nil ?_
                -- round of loop 4, path FTTTF
                rw [shJ_no hjl h5]
                refine GE.round (j + 1) (by omega) (by omega) Wkp Wsb
            · -- FTTF
              refine GC.exit ?_
              refine GE.seq_exit ?_
              refine GE.loop_exit ?_
              refine GE.block_exit ?_
              refine GE.seq ?_
              refine GC.region ?_
              obtain rfl : j = 3 := by omega
              rw [shJ_three]
              refine GL.v Wfa ?_
              refine GL.v Wlb ?_
              refine GL.v Wlba ?_
              refine GL.buildSlice rfl (bsPart1 (shiftP (upS q gs k).2.length p)) rfl (by decide) rfl ?_; intro g147
              first | (refine GL.append rfl rfl Wpk (by assumption) Wim (by first | rfl | (simp; done) | (simp; omega)) (by first | rfl | (simp; done) | (simp; omega)) (by first | omega | (simp; omega)) (by first | omega | (simp; omega)) rfl ?_; intro A148 c148) | (refine GL.append rfl rfl Wpk (Rd.of_pick Wpk) Imp.refl (by first | rfl | (simp; done) | (simp; omega)) (by first | rfl | (simp; done) | (simp; omega)) (by first | omega | (simp; omega)) (by first | omega | (simp; omega)) rfl ?_; intro A148 c148)
              refine GL.v Wfa ?_
              refine GL.store_blk rfl rfl rfl Wpk (Nat.lt_of_lt_of_le (Nat.le_of_ble_eq_true (by rfl)) (Nat.le_refl _)) (by rfl) (by rfl) ?_
              refine GL.nil ?_
              refine GE.block ?_
              refine GE.seq ?_
              refine GC.region ?_
              refine GL.v Wad ?_
              refine GL.v Wmv ?_
              refine GL.nil ?_
              -- round of loop 3, path FTTF
              refine GE.round (m + 1, A148, c148) (by dsimp only; omega) (by dsimp only; omega) Wkp (by dsimp only; rw [← hin]; exact Wsb)
          · -- FTF
            refine GC.exit ?_
            refine GE.seq_exit ?_
            refine GE.loop_exit ?_
            refine GE.block_exit ?_
            refine GE.seq ?_
            refine GC.region_tail 9 mixed (by kernel_rfl) ?_
            obtain rfl : m = fs[k].parts.length := by omega
            have hup : inS (upS q gs k).2 fs[k].parts fs[k].parts.length = (upS q gs (k + 1)).2 := by rw [upS_in q hkl]; simp only [hpk]
            rw [hup]
            rw [hup] at hil
            have huf := upS_fst q hkl
            refine GS.val (by exact EvP.r (Ev.move rfl)) rfl rfl ?_
            refine GS.val (by exact EvP.r (Ev.move rfl)) rfl rfl ?_
            refine GS.val (by exact Wix) rfl rfl ?_
            refine GS.val (by exact EvR.cast (show ptrE.val ([some ((⟨g5, 0, none⟩ : Addr).add 1), some ((⟨g5, 0, none⟩ : Addr).add 2), some ((⟨g5, 0, none⟩ : Addr).add 3)][k]'(by simp; omega)) = .pointer (some ⟨g5, k + 1, none⟩) by rw [ptr3_get]; rfl) Wle) rfl rfl ?_
            refine GS.val (by exact EvP.r (Ev.fieldAddr rfl)) rfl rfl ?_
            refine GS.val (by exact Wlb) rfl rfl ?_
            refine GS.val (by exact EvP.r (Ev.len rfl)) rfl rfl ?_
            refine GS.val (by exact EvP.r (Ev.sub rfl rfl (by omega))) rfl rfl ?_
            refine GS.val (by exact EvP.r (Ev.nilCheck rfl)) rfl rfl ?_
            refine GS.nil ?_
            refine GL.store_blk (o := k + 1) rfl rfl rfl Wpk (by simp [Part.cells]; omega) rfl rfl ?_
            refine GL.nil ?_
            refine GE.block ?_
            refine GE.seq ?_
            refine GC.region ?_
            refine GL.v Wad ?_
            refine GL.v Wmv ?_
            refine GL.nil ?_
            -- round of loop 2, path FTF
            rw [Part.cells_set _ _ _ (by omega), ← huf]
            refine GE.round (k + 1, _, _) (by dsimp only; omega) (by dsimp only; omega) Wkp Wsb
        · -- FF
          refine GC.exit ?_
          refine GE.seq_exit ?_
          refine GE.loop_exit ?_
          refine GE.block_exit ?_
          refine GE.seq ?_
          refine GC.seq ?_
          refine GC.region ?_
          obtain rfl : k = gs.length := by omega
          refine GL.v Wfa ?_
          refine GL.v Wlb ?_
          refine GL.v Wlba ?_
          refine GL.buildSlice rfl (bsPart1 (upS q gs gs.length).1) rfl (by decide) rfl ?_; intro g164
          first | (refine GL.append rfl rfl Wpk (by assumption) Wim (by first | rfl | (simp; done) | (simp; omega)) (by first | rfl | (simp; done) | (simp; omega)) (by first | omega | (simp; omega)) (by first | omega | (simp; omega)) rfl ?_; intro A165 c165) | (refine GL.append rfl rfl Wpk (Rd.of_pick Wpk) Imp.refl (by first | rfl | (simp; done) | (simp; omega)) (by first | rfl | (simp; done) | (simp; omega)) (by first | omega | (simp; omega)) (by first | omega | (simp; omega)) rfl ?_; intro A165 c165)
          refine GL.v Wfa ?_
          refine GL.store_blk rfl rfl rfl Wpk (Nat.lt_of_lt_of_le (Nat.le_of_ble_eq_true (by rfl)) (Nat.le_refl _)) (by rfl) (by rfl) ?_
          refine GL.nil ?_
          refine GE.seq ?_
          refine GC.seq ?_
          refine GC.region ?_
          refine GL.v Wlba ?_
          refine GL.store_varN rfl rfl rfl Wpk (by rfl) (by rfl) (by rfl) ?_
          refine GL.nil ?_
          refine GE.seq ?_
          refine GC.ret ?_
          -- returns, path FF
          refine GE.ret_cell (L' := row partE A165 c165 ((upS q gs gs.length).2 ++ [(upS q gs gs.length).1]) :: X) (.inl rfl) rfl rfl rfl (BlkRd.of_pick Wpk) (by rfl) Wsb ?_
          rw [hfc, upS_full]
          exact ⟨_, _, rfl, rfl⟩
theorem Ev.field {P : Program} {N : Nat} {F : Env} {dst : Option Tmp} {x : Operand} {t ty : TypeId} {i : Nat} {pos : String} {after : Array Edge} {v u : Value} (hx : ev F x = some v) (hq : ∀ w, (Instr.field t v i).run P w = .ok u w) : EvP P N ⟨dst, .field t x i, ty, pos, after, none⟩ F u := ⟨rfl, fun a w hf => by simp [execOp, hf.ev hx, hq]⟩
theorem fdForm (A : Option Addr) (n c : Nat) : ∀ w, (Instr.field 35 (.agg #[.slice A n c]) 0).run Try.prog w = .ok (.slice A n c) w := fun w => by kernel_rfl
theorem iFoldFormula_spec (w0 : World) (L : List Asn) (A : Option Addr) (c : Nat) (ps : List Part) (hR : Rd w0 L partE A c ps) :
    Tr Try.prog 51 #[.agg #[.slice A ps.length c]] w0 L (fun v L' => ∃ B d, v = .agg #[.slice B (folF ps).length d] ∧ L' = row partE B d (folF ps) :: L) := by
  refine Tr.enter (args := [.agg #[.slice A ps.length c]]) Try.func51 Try.ntmps51 rfl rfl ?_
  refine GC.seq ?_
  refine GC.region ?_
  refine GL.box_agg rfl rfl ?_; intro g1
  refine GL.alloc rfl ?_; intro g2
  refine GL.nil ?_
  refine GE.seq ?_
  refine GC.seq ?_
  refine GC.seq ?_
  refine GC.region ?_
  refine GL.v Wlba ?_
  refine GL.callF rfl rfl (ValidFormula_spec _ _ _ _ _ Wrd) ?_
  refine GL.v Wnt ?_
  refine GL.nil ?_
  refine GE.seq ?_
  refine GC.ifs (fun h1 => ?_) (fun h1 => ?_)
  · -- T
    refine GC.seq ?_
    refine GC.region ?_
    refine GL.v (by exact EvP.r (Ev.build rfl (by first | exact bdPart ⟨_, _, _, _, _⟩ | exact bdReader _ _ _ | exact bdPart4 _ _ _ _ | exact bdForm _ _ _ | exact bdForm0 | exact bdGraph0 | exact bdGraph _ _ _ | exact bdNode1 _ | exact bdNode2 _ _ _ _ | exact bdHist0 | exact bdHist1 _ _ _ | exact bdHist2 _ _ _ _ | exact bdAct1 _ | exact bdAct2 _ _ | exact bdAct3 _ _ _ | exact bdAct13 _ _ | exact bdSes _ _ _ _ _ _ _ _ _))) ?_
    refine GL.store_varN rfl rfl rfl Wpk (by rfl) (by rfl) (by rfl) ?_
    refine GL.nil ?_
    refine GE.seq ?_
    refine GC.ret ?_
    refine GE.seq_ret ?_
    -- returns, path T
    refine GE.state (fun _ hs => hs.empty partE none) ?_
    refine GE.ret_cell (L' := row partE none 0 [] :: L) (.inl rfl) rfl rfl rfl (BlkRd.of_pick Wpk) (by rfl) Wsb ?_
    have e : folF ps = [] := by simp [folF, h1]
    rw [e]
    exact ⟨none, 0, rfl, rfl⟩
  · -- F
    have hv := validF_iff.1 h1
    have hl1 := hv.1
    have hl2 := hv.2.1
    have hfl := folF_length hv
    refine GC.skip ?_
    refine GE.seq ?_
    refine GC.seq ?_
    refine GC.region_any #[false, false, true, true, true, true, false, true] mixed ?_
    refine GA.read 0 #[false, true, true, false, false, false, false, false] rfl (by exact Wlba) rfl rfl (by kernel_rfl) rfl (by kernel_rfl) (by kernel_rfl) (fun _ _ _ h => h) ?_
    refine GA.read 1 #[true, false, false, false, false, false, false, false] rfl (by exact Wlba) rfl rfl (by kernel_rfl) rfl (by kernel_rfl) (by kernel_rfl) (fun _ _ _ h => h) ?_
    refine GA.branch (rs := [2]) (JOk.live (by exact Wlba) (JOk.live (by exact Wlba) JOk.nil)) (by kernel_rfl) (by simp) ?_
    refine GAs.cons rfl ?_ ?_
    · -- F op 2
      refine GL.callF rfl rfl (last_spec _ _ _ _ _ (by omega)) ?_
      refine GL.nil ?_
      refine GE.any ?_
      refine GA.branch (rs := [3]) (JOk.dead (by kernel_rfl) (JOk.live (by exact Wlba) JOk.nil)) (by kernel_rfl) (by simp) ?_
      refine GAs.cons rfl ?_ ?_
      · -- F op 3
        refine GL.call rfl rfl (fold_spec w0 _ A c ps (hR.imp Wim) hv.2.2.1 hl2 ps.length (ps.length - 1) (by omega) (by omega) hl2 _ Imp.refl _ (by omega)) ?_
        rintro _ _ ⟨B, d, rfl, rfl⟩
        rw [← folF_yes hv]
        refine GL.nil ?_
        refine GE.any ?_
        refine GA.branch (rs := [4]) (JOk.dead (by kernel_rfl) (JOk.dead (by kernel_rfl) JOk.nil)) (by kernel_rfl) (by simp) ?_
        refine GAs.cons rfl ?_ ?_
        · -- F op 4
          refine GL.v (by exact EvP.r (Ev.field rfl (fdForm _ _ _))) ?_
          refine GL.nil ?_
          refine GE.any ?_
          refine GA.branch (rs := [5]) (JOk.dead (by kernel_rfl) (JOk.dead (by kernel_rfl) JOk.nil)) (by kernel_rfl) (by simp) ?_
          refine GAs.cons rfl ?_ ?_
          · -- F op 5
            refine GL.call rfl rfl (clonePart_spec _ _ _ _ _ Wrd Wom) ?_
            rintro _ _ ⟨B12, rfl, rfl⟩
            refine GL.nil ?_
            refine GE.any ?_
            refine GA.take 6 #[true, true, true, true, true, true, false, false] rfl (by exact Ev.build rfl (by first | exact bdPart ⟨_, _, _, _, _⟩ | exact bdReader _ _ _ | exact bdPart4 _ _ _ _ | exact bdForm _ _ _ | exact bdForm0 | exact bdGraph0 | exact bdGraph _ _ _ | exact bdNode1 _ | exact bdNode2 _ _ _ _ | exact bdHist0 | exact bdHist1 _ _ _ | exact bdHist2 _ _ _ _ | exact bdAct1 _ | exact bdAct2 _ _ | exact bdAct3 _ _ _ | exact bdAct13 _ _ | exact bdSes _ _ _ _ _ _ _ _ _)) rfl rfl (by kernel_rfl) rfl (by kernel_rfl) (by kernel_rfl) (fun _ _ _ h => h) ?_
            refine GA.branch (rs := [7]) (JOk.dead (by kernel_rfl) (JOk.dead (by kernel_rfl) JOk.nil)) (by kernel_rfl) (by simp) ?_
            refine GAs.cons rfl ?_ ?_
            · -- F op 7
              refine GL.store_varN rfl rfl rfl Wpk (by rfl) (by rfl) (by rfl) ?_
              refine GL.nil ?_
              refine GE.any ?_
              refine GA.done (JOk.dead (by kernel_rfl) (JOk.dead (by kernel_rfl) JOk.nil)) (by kernel_rfl) ?_
              refine GE.seq ?_
              refine GC.ret ?_
              -- returns, path F
              refine GE.ret_cell (L' := row partE B12 (folF ps).length (folF ps) :: L) (.inl rfl) rfl rfl rfl (BlkRd.of_pick Wpk) (by rfl) Wsb ?_
              exact ⟨_, _, rfl, rfl⟩
            exact GAs.nil
          exact GAs.nil
        exact GAs.nil
      exact GAs.nil
    exact GAs.nil
end SG
