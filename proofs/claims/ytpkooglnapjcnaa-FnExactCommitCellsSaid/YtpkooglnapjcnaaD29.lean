/- Contracts: new, committed and moved histories. -/
import Derived.Test.YtpkooglnapjcnaaD28
namespace SG
open Go Go.RowKit Go.Proofs
set_option linter.unusedVariables false
set_option linter.unusedSimpArgs false
set_option maxRecDepth 100000
noncomputable def newL (gs : List Nd) (xs : List Int) : List (List Int) := if cellsV gs xs = true then [xs] else []
theorem newL_no {gs : List Nd} {xs : List Int} (h : cellsV gs xs = false) : newL gs xs = [] := by simp [newL, h]
theorem newL_yes {gs : List Nd} {xs : List Int} (h : cellsV gs xs = true) : newL gs xs = [xs] := by simp [newL, h]
noncomputable def comB (gs : List Nd) (xss : List (List Int)) (a : Int) (xs : List Int) : Bool := hisB gs xss a && cellsV gs xs && decide (a + 2 ≤ 10)
noncomputable def comL (gs : List Nd) (xss : List (List Int)) (a : Int) (xs : List Int) : List (List Int) := if comB gs xss a xs = true then xss.take (a.toNat + 1) ++ [xs] else []
noncomputable def comA (gs : List Nd) (xss : List (List Int)) (a : Int) (xs : List Int) : Int := if comB gs xss a xs = true then a + 1 else 0
theorem comB_no1 {gs : List Nd} {xss : List (List Int)} {a : Int} {xs : List Int} (h : hisB gs xss a = false) : comB gs xss a xs = false := by simp [comB, h]
theorem comB_no2 {gs : List Nd} {xss : List (List Int)} {a : Int} {xs : List Int} (h : cellsV gs xs = false) : comB gs xss a xs = false := by simp [comB, h]
theorem comB_no3 {gs : List Nd} {xss : List (List Int)} {a : Int} {xs : List Int} (h : ¬ a + 2 ≤ 10) : comB gs xss a xs = false := by simp [comB, h]
theorem comB_yes {gs : List Nd} {xss : List (List Int)} {a : Int} {xs : List Int} (h : hisB gs xss a = true) (h2 : cellsV gs xs = true) (h3 : a + 2 ≤ 10) : comB gs xss a xs = true := by simp [comB, h, h2, h3]
theorem comL_no {gs : List Nd} {xss : List (List Int)} {a : Int} {xs : List Int} (h : comB gs xss a xs = false) : comL gs xss a xs = [] ∧ comA gs xss a xs = 0 := by simp [comL, comA, h]
theorem comL_yes {gs : List Nd} {xss : List (List Int)} {a : Int} {xs : List Int} (h : comB gs xss a xs = true) : comL gs xss a xs = xss.take (a.toNat + 1) ++ [xs] ∧ comA gs xss a xs = a + 1 := by simp [comL, comA, h]
theorem li_take (ls : List LiM) (k : Nat) : li (ls.take k) = (li ls).take k := by simp [li, List.map_take]
theorem SizeLs.take {ls : List LiM} (h : SizeLs ls) (k : Nat) : SizeLs (ls.take k) := ⟨by rw [List.length_take]; have := h.1; omega, fun i hi => by
  have hl : i < ls.length := by rw [List.length_take] at hi; omega
  rw [List.getElem_take]; exact h.2 i hl⟩
theorem St.none_lists {w0 w : World} {L : List Asn} (h : St w0 w L) : St w0 w (row slE none 0 [] :: rowsA [] :: L) := St.empty slE none (show St w0 w (rowsA [] :: L) from h.sat0)
theorem St.rows0 {w0 w : World} {L : List Asn} (h : St w0 w L) : St w0 w (rowsA [] :: L) := h.sat0
theorem Ev.neg {P : Program} {N : Nat} {dst : Option Tmp} {x : Operand} {ty t : TypeId} {pos : String} {after : Array Edge} {F : Env} {m : Int} (hx : ev F x = some (.int .i64 m)) (hr : -9223372036854775808 ≤ -m ∧ -m ≤ 9223372036854775807) : EvP P N ⟨dst, .unOp .neg t x, ty, pos, after, none⟩ F (.int .i64 (-m)) := ⟨rfl, fun a w hf => by simp [execOp, hf.ev hx, Op.unary, Op.intArith, IntWalk.i64_in _ hr]⟩
theorem GE.row_clip {P : Program} {Q : Exit → Act → World → Prop} {w0 : World} {N : Nat} {fs : List Kf} {F : Env} {e : Exit} {α : Type} {E : El α} {A : Option Addr} {c : Nat} {xs : List α} {L L1 : List Asn} (p : Pick L (row E A c xs) L1) (hc : xs.length ≤ c) (h : GE P Q w0 N fs e F (row E A xs.length xs :: L1)) : GE P Q w0 N fs e F L :=
  GE.state (fun _ hs => (hs.pick p).conv fun _ hk => row.clip hk xs.length (Nat.le_refl _) hc) h
theorem sub_app {L : List Asn} : ∀ X : List Asn, Sub (X ++ L) L
  | [] => .refl
  | _ :: X => (sub_app X).drop
theorem St.rows_take {w0 w : World} {L L1 : List Asn} {ms : List LiM} (k : Nat) (q : Pick L (rowsA ms) L1) (hs : St w0 w L) : St w0 w (rowsA (ms.take k) :: L1) := by
  have h1 := (hs.pick q).flat
  have e : ms.map LiM.rowA ++ L1 = (ms.take k).map LiM.rowA ++ ((ms.drop k).map LiM.rowA ++ L1) := by rw [← List.append_assoc, ← List.map_append, List.take_append_drop]
  rw [e] at h1
  exact (St.fold h1).sub (Sub.cons .head (sub_app _))
/-- a history that moves -/
noncomputable def movB (gs : List Nd) (xss : List (List Int)) (a b : Int) : Bool := hisB gs xss a && inB b (-a) ((xss.length : Int) - 1 - a)
noncomputable def movS (gs : List Nd) (xss : List (List Int)) (a b : Int) : List (List Int) := if movB gs xss a b = true then xss else []
noncomputable def movA (gs : List Nd) (xss : List (List Int)) (a b : Int) : Int := if movB gs xss a b = true then a + b else 0
noncomputable def movL (gs : List Nd) (xss : List (List Int)) (a b : Int) : List Int := if movB gs xss a b = true then diffOfL gs (xss.getD a.toNat []) (xss.getD (a + b).toNat []) else []
theorem mov_no {gs : List Nd} {xss : List (List Int)} {a b : Int} (h : movB gs xss a b = false) : movS gs xss a b = [] ∧ movA gs xss a b = 0 ∧ movL gs xss a b = [] := by simp [movS, movA, movL, h]
theorem mov_yes {gs : List Nd} {xss : List (List Int)} {a b : Int} (h : movB gs xss a b = true) : movS gs xss a b = xss ∧ movA gs xss a b = a + b ∧ movL gs xss a b = diffOfL gs (xss.getD a.toNat []) (xss.getD (a + b).toNat []) := by simp [movS, movA, movL, h]
theorem SizeLs.of_li {ls : List LiM} {xss : List (List Int)} (h : SG.li ls = xss) (hl : xss.length ≤ 1100000) (h' : ∀ xs ∈ xss, xs.length ≤ 1100000) : SizeLs ls := by
  subst h
  exact ⟨by simpa using hl, fun i hi => h' _ (List.mem_map.2 ⟨_, List.getElem_mem hi, rfl⟩)⟩
theorem SizeLs.mem {ls : List LiM} (h : SizeLs ls) : ∀ xs ∈ SG.li ls, xs.length ≤ 1100000 := fun xs hx => by
  obtain ⟨l, hl, rfl⟩ := List.mem_map.1 hx
  obtain ⟨i, hi, rfl⟩ := List.mem_iff_getElem.1 hl
  exact h.2 i hi
theorem SizeLs.new {ls : List LiM} {gs : List Nd} {xs : List Int} (h : SG.li ls = newL gs xs) (hx : xs.length ≤ 1100000) : SizeLs ls := by
  refine SizeLs.of_li h ?_ ?_ <;> unfold newL <;> split
  · simp
  · simp
  · intro ys hy; rw [List.mem_singleton.1 hy]; exact hx
  · intro ys hy; simp at hy
theorem SizeLs.com {ls ns : List LiM} {gs : List Nd} {a : Int} {xs : List Int} (h : SG.li ns = comL gs (SG.li ls) a xs) (hS : SizeLs ls) (hx : xs.length ≤ 1100000) : SizeLs ns := by
  have hb : comB gs (SG.li ls) a xs = true → ls.length ≤ 10 := fun hb => by
    unfold comB at hb
    rw [Bool.and_eq_true, Bool.and_eq_true] at hb
    have := (hisB_iff.1 hb.1.1).2.1.2
    simpa using this
  refine SizeLs.of_li h ?_ ?_ <;> unfold comL <;> split
  · rename_i hc
    have := hb hc
    rw [List.length_append, List.length_take, li_length]; simp; omega
  · simp
  · intro ys hy
    rcases List.mem_append.1 hy with hy | hy
    · exact hS.mem ys (List.mem_of_mem_take hy)
    · rw [List.mem_singleton.1 hy]; exact hx
  · intro ys hy; simp at hy
theorem SizeLs.mov {ls ns : List LiM} {gs : List Nd} {a b : Int} (h : SG.li ns = movS gs (SG.li ls) a b) (hS : SizeLs ls) : SizeLs ns := by
  refine SizeLs.of_li h ?_ ?_ <;> unfold movS <;> split
  · have := hS.1; simpa using this
  · simp
  · exact hS.mem
  · intro ys hy; simp at hy
theorem comB_iff {gs : List Nd} {xss : List (List Int)} {a : Int} {xs : List Int} : comB gs xss a xs = true ↔ hisB gs xss a = true ∧ cellsV gs xs = true ∧ a + 2 ≤ 10 := by
  unfold comB
  rw [Bool.and_eq_true, Bool.and_eq_true, decide_eq_true_eq, and_assoc]
theorem com_his {gs : List Nd} {xss : List (List Int)} {a : Int} {xs : List Int} (h : comB gs xss a xs = true) : hisB gs (comL gs xss a xs) (a + 1) = true ∧ (comL gs xss a xs).length = a.toNat + 2 := by
  obtain ⟨h1, h2, h3⟩ := comB_iff.1 h
  obtain ⟨hv, hl, ha, hall⟩ := hisB_iff.1 h1
  have e : (comL gs xss a xs).length = a.toNat + 2 := by
    rw [(comL_yes h).1, List.length_append, List.length_take]; simp; omega
  refine ⟨hisB_iff.2 ⟨hv, by omega, by omega, fun ys hy => ?_⟩, e⟩
  rw [(comL_yes h).1] at hy
  rcases List.mem_append.1 hy with hy | hy
  · exact hall ys (List.mem_of_mem_take hy)
  · rw [List.mem_singleton.1 hy]; exact h2
theorem com_last {gs : List Nd} {xss : List (List Int)} {a : Int} {xs : List Int} (h : comB gs xss a xs = true) : (comL gs xss a xs).getD (a + 1).toNat [] = xs ∧ (comL gs xss a xs).getD a.toNat [] = xss.getD a.toNat [] := by
  obtain ⟨h1, h2, h3⟩ := comB_iff.1 h
  obtain ⟨hv, hl, ha, hall⟩ := hisB_iff.1 h1
  rw [(comL_yes h).1]
  constructor
  · rw [List.getD_eq_getElem?_getD, List.getElem?_append_right (by rw [List.length_take]; omega), List.length_take, show (a + 1).toNat - min (a.toNat + 1) xss.length = 0 by omega]; rfl
  · rw [List.getD_eq_getElem?_getD, List.getD_eq_getElem?_getD, List.getElem?_append_left (by rw [List.length_take]; omega), List.getElem?_take, if_pos (by omega)]
theorem iNewHistory_spec (w0 : World) (L : List Asn) (A : Option Addr) (c : Nat) (ms : List NdM) (hG : RdG w0 L A c ms) (B : Option Addr) (d : Nat) (xs : List Int) (hX : Rd w0 L intE B d xs) (hl : ms.length ≤ 1100000) (hx : xs.length ≤ 1100000) :
    Tr Try.prog 49 #[.agg #[.slice A ms.length c], .slice B xs.length d] w0 L (fun v L' => ∃ D e ls, li ls = newL (gr ms) xs ∧ v = .agg #[.slice D ls.length e, .int .i64 0] ∧ L' = row slE D e ls :: rowsA ls :: L) := by
  refine Tr.enter (args := [.agg #[.slice A ms.length c], .slice B xs.length d]) Try.func49 Try.ntmps49 rfl rfl ?_
  refine GC.seq ?_
  refine GC.region ?_
  refine GL.box_agg rfl rfl ?_; intro g2
  refine GL.alloc rfl ?_; intro g4
  refine GL.nil ?_
  refine GE.seq ?_
  refine GC.seq ?_
  refine GC.seq ?_
  refine GC.region ?_
  refine GL.v Wlba ?_
  refine GL.v Wmv ?_
  refine GL.callF rfl rfl (iValidCells_spec _ _ _ _ _ (by first | assumption | exact RdG.imp (by assumption) Wim | exact RdG.of_pick Wpk Wpk) _ _ _ Wrd (by first | omega | exact SizeG.le (by assumption)) Wom) ?_
  refine GL.v Wnt ?_
  refine GL.nil ?_
  refine GE.seq ?_
  refine GC.ifs (fun h1 => ?_) (fun h1 => ?_)
  · -- T
    refine GC.seq ?_
    refine GC.region ?_
    refine GL.v (by exact EvP.r (Ev.build rfl (by first | exact bdPart ⟨_, _, _, _, _⟩ | exact bdReader _ _ _ | exact bdPart4 _ _ _ _ | exact bdForm _ _ _ | exact bdForm0 | exact bdGraph0 | exact bdGraph _ _ _ | exact bdNode1 _ | exact bdNode2 _ _ _ _ | exact bdHist0 | exact bdHist1 _ _ _ | exact bdHist2 _ _ _ _))) ?_
    refine GL.store_varN rfl rfl rfl Wpk (by rfl) (by rfl) (by rfl) ?_
    refine GL.nil ?_
    refine GE.seq ?_
    refine GC.ret ?_
    refine GE.seq_ret ?_
    -- returns, path T
    refine GE.state (fun _ hs => hs.none_lists) ?_
    refine GE.ret_cell (L' := row slE none 0 [] :: rowsA [] :: L) (.inl rfl) rfl rfl rfl (BlkRd.of_pick Wpk) (by rfl) Wsb ?_
    exact ⟨none, 0, [], by rw [newL_no h1]; rfl, rfl, rfl⟩
  · -- F
    refine GC.skip ?_
    refine GE.seq ?_
    refine GC.seq ?_
    refine GC.region ?_
    refine GL.v Wmv ?_
    refine GL.call rfl rfl (cloneInt_spec _ _ _ _ _ Wrd Wom) ?_
    rintro _ _ ⟨B11, rfl, rfl⟩
    refine GL.buildSlice rfl (by first | exact bsInt0 | exact bsInt1 _ | exact bsInt2 _ _ | exact bsInt3 _ _ _ | exact bsInt4 _ _ _ _ | exact bsInt5 _ _ _ _ _ | exact bsInt6 _ _ _ _ _ _ | exact bsInt7 _ _ _ _ _ _ _ | exact bsInt8 _ _ _ _ _ _ _ _ | exact bsInt9 _ _ _ _ _ _ _ _ _ | exact bsInt10 _ _ _ _ _ _ _ _ _ _ | exact bsPart0 | exact bsPart1 ⟨_, _, _, _, _⟩ | exact bsNode1 ⟨_, _, _, _⟩ | exact bsPtr3 _ _ _ | exact bsSl0 | exact bsSl1 ⟨_, _, _⟩) rfl (by decide) rfl ?_; intro g12
    refine GL.v (by exact EvP.r (Ev.build rfl (by first | exact bdPart ⟨_, _, _, _, _⟩ | exact bdReader _ _ _ | exact bdPart4 _ _ _ _ | exact bdForm _ _ _ | exact bdForm0 | exact bdGraph0 | exact bdGraph _ _ _ | exact bdNode1 _ | exact bdNode2 _ _ _ _ | exact bdHist0 | exact bdHist1 _ _ _ | exact bdHist2 _ _ _ _))) ?_
    refine GL.store_varN rfl rfl rfl Wpk (by rfl) (by rfl) (by rfl) ?_
    refine GL.nil ?_
    refine GE.seq ?_
    refine GC.ret ?_
    -- returns, path F
    refine GE.state (fun _ hs => hs.rows0) ?_
    refine GE.rows_snoc (ls := []) ⟨B11, xs.length, xs⟩ Wpk Wpk ?_
    refine GE.ret_cell (L' := row slE (some ⟨g12, 0, none⟩) 1 [⟨B11, xs.length, xs⟩] :: rowsA ([] ++ [⟨B11, xs.length, xs⟩]) :: L) (.inl rfl) rfl rfl rfl (BlkRd.of_pick Wpk) (by rfl) Wsb ?_
    exact ⟨_, _, [⟨B11, xs.length, xs⟩], by rw [newL_yes h1]; rfl, rfl, rfl⟩
theorem sNewHistory_spec (w0 : World) (L : List Asn) (A : Option Addr) (c : Nat) (ms : List NdM) (hG : RdG w0 L A c ms) (B : Option Addr) (d : Nat) (xs : List Int) (hX : Rd w0 L intE B d xs) (hS : SizeG ms) (hx : xs.length ≤ 1100000) :
    Tr Try.prog 51 #[.agg #[.slice A ms.length c], .slice B xs.length d] w0 L (fun v L' => ∃ D e ls, li ls = newL (gr ms) xs ∧ v = .agg #[.slice D ls.length e, .int .i64 0] ∧ L' = row slE D e ls :: rowsA ls :: L) := by
  have hSl := hS.1
  refine Tr.enter (args := [.agg #[.slice A ms.length c], .slice B xs.length d]) Try.func51 Try.ntmps51 rfl rfl ?_
  refine GC.seq ?_
  refine GC.region ?_
  refine GL.box_agg rfl rfl ?_; intro g2
  refine GL.alloc rfl ?_; intro g4
  refine GL.nil ?_
  refine GE.seq ?_
  refine GC.seq ?_
  refine GC.seq ?_
  refine GC.region ?_
  refine GL.v Wlba ?_
  refine GL.callF rfl rfl (svalidGraph_spec _ _ _ _ _ (by first | assumption | exact RdG.imp (by assumption) Wim | exact RdG.of_pick Wpk Wpk) (by assumption)) ?_
  refine GL.v Wnt ?_
  refine GL.v Wmv ?_
  refine GL.gs (fun h1 => ?_) (fun h1 => ?_)
  · -- t
    refine GL.unwant rfl rfl rfl rfl ?_
    refine GL.unwant rfl rfl rfl rfl ?_
    refine GL.unwant rfl rfl rfl rfl ?_
    refine GL.unwant rfl rfl rfl rfl ?_
    refine GL.v Wpt ?_
    refine GL.nil ?_
    refine GE.seq ?_
    refine GC.cond_true rfl ?_
    refine GC.seq ?_
    refine GC.region ?_
    refine GL.v (by exact EvP.r (Ev.build rfl (by first | exact bdPart ⟨_, _, _, _, _⟩ | exact bdReader _ _ _ | exact bdPart4 _ _ _ _ | exact bdForm _ _ _ | exact bdForm0 | exact bdGraph0 | exact bdGraph _ _ _ | exact bdNode1 _ | exact bdNode2 _ _ _ _ | exact bdHist0 | exact bdHist1 _ _ _ | exact bdHist2 _ _ _ _))) ?_
    refine GL.store_varN rfl rfl rfl Wpk (by rfl) (by rfl) (by rfl) ?_
    refine GL.nil ?_
    refine GE.seq ?_
    refine GC.ret ?_
    refine GE.seq_ret ?_
    -- returns, path t
    refine GE.state (fun _ hs => hs.none_lists) ?_
    refine GE.ret_cell (L' := row slE none 0 [] :: rowsA [] :: L) (.inl rfl) rfl rfl rfl (BlkRd.of_pick Wpk) (by rfl) Wsb ?_
    exact ⟨none, 0, [], by rw [newL_no (by rw [cellsV, h1]; rfl)]; rfl, rfl, rfl⟩
  · -- f
    refine GL.want rfl rfl ?_
    refine GL.v Wlba ?_
    refine GL.want rfl rfl ?_
    refine GL.v Wmv ?_
    refine GL.want rfl rfl ?_
    refine GL.callF rfl rfl (svalidCells_spec _ _ _ _ _ (by first | assumption | exact RdG.imp (by assumption) Wim | exact RdG.of_pick Wpk Wpk) _ _ _ Wrd Wom) ?_
    refine GL.want rfl rfl ?_
    refine GL.v Wnt ?_
    refine GL.v Wpf ?_
    refine GL.nil ?_
    refine GE.seq ?_
    refine GC.ifs (fun h2 => ?_) (fun h2 => ?_)
    · -- fT
      refine GC.seq ?_
      refine GC.region ?_
      refine GL.v (by exact EvP.r (Ev.build rfl (by first | exact bdPart ⟨_, _, _, _, _⟩ | exact bdReader _ _ _ | exact bdPart4 _ _ _ _ | exact bdForm _ _ _ | exact bdForm0 | exact bdGraph0 | exact bdGraph _ _ _ | exact bdNode1 _ | exact bdNode2 _ _ _ _ | exact bdHist0 | exact bdHist1 _ _ _ | exact bdHist2 _ _ _ _))) ?_
      refine GL.store_varN rfl rfl rfl Wpk (by rfl) (by rfl) (by rfl) ?_
      refine GL.nil ?_
      refine GE.seq ?_
      refine GC.ret ?_
      refine GE.seq_ret ?_
      -- returns, path fT
      refine GE.state (fun _ hs => hs.none_lists) ?_
      refine GE.ret_cell (L' := row slE none 0 [] :: rowsA [] :: L) (.inl rfl) rfl rfl rfl (BlkRd.of_pick Wpk) (by rfl) Wsb ?_
      exact ⟨none, 0, [], by rw [newL_no (by rw [cellsV, h2]; simp)]; rfl, rfl, rfl⟩
    · -- fF
      refine GC.skip ?_
      refine GE.seq ?_
      refine GC.seq ?_
      refine GC.region ?_
      refine GL.v Wmv ?_
      refine GL.call rfl rfl (copyInts_spec _ _ _ _ _ Wrd Wom) ?_
      rintro _ _ ⟨B16, d16, rfl, rfl⟩
      refine GL.buildSlice rfl (by first | exact bsInt0 | exact bsInt1 _ | exact bsInt2 _ _ | exact bsInt3 _ _ _ | exact bsInt4 _ _ _ _ | exact bsInt5 _ _ _ _ _ | exact bsInt6 _ _ _ _ _ _ | exact bsInt7 _ _ _ _ _ _ _ | exact bsInt8 _ _ _ _ _ _ _ _ | exact bsInt9 _ _ _ _ _ _ _ _ _ | exact bsInt10 _ _ _ _ _ _ _ _ _ _ | exact bsPart0 | exact bsPart1 ⟨_, _, _, _, _⟩ | exact bsNode1 ⟨_, _, _, _⟩ | exact bsPtr3 _ _ _ | exact bsSl0 | exact bsSl1 ⟨_, _, _⟩) rfl (by decide) rfl ?_; intro g17
      refine GL.v (by exact EvP.r (Ev.build rfl (by first | exact bdPart ⟨_, _, _, _, _⟩ | exact bdReader _ _ _ | exact bdPart4 _ _ _ _ | exact bdForm _ _ _ | exact bdForm0 | exact bdGraph0 | exact bdGraph _ _ _ | exact bdNode1 _ | exact bdNode2 _ _ _ _ | exact bdHist0 | exact bdHist1 _ _ _ | exact bdHist2 _ _ _ _))) ?_
      refine GL.store_varN rfl rfl rfl Wpk (by rfl) (by rfl) (by rfl) ?_
      refine GL.nil ?_
      refine GE.seq ?_
      refine GC.ret ?_
      -- returns, path fF
      refine GE.state (fun _ hs => hs.rows0) ?_
      refine GE.rows_snoc (ls := []) ⟨B16, d16, xs⟩ Wpk Wpk ?_
      refine GE.ret_cell (L' := row slE (some ⟨g17, 0, none⟩) 1 [⟨B16, d16, xs⟩] :: rowsA ([] ++ [⟨B16, d16, xs⟩]) :: L) (.inl rfl) rfl rfl rfl (BlkRd.of_pick Wpk) (by rfl) Wsb ?_
      exact ⟨_, _, [⟨B16, d16, xs⟩], by rw [newL_yes (by rw [cellsV, h1, h2]; rfl)]; rfl, rfl, rfl⟩
theorem Tr.len1 {P : Program} {f : FuncId} {B : Option Addr} {n m d : Nat} {w0 : World} {L : List Asn} {R : Value → List Asn → Prop} (h : n = m) (hT : Tr P f #[.slice B m d] w0 L R) : Tr P f #[.slice B n d] w0 L R := by rw [h]; exact hT
theorem ClipSl_spec (w0 : World) (L : List Asn) (A : Option Addr) (n c : Nat) (hn : n ≤ c) : Tr Try.prog 108 #[.slice A n c] w0 L (fun v L' => v = .slice A n n ∧ L' = L) := by
  refine Tr.enter (args := [.slice A n c]) Try.func108 Try.ntmps108 rfl rfl ?_
  refine GC.seq ?_
  refine GC.region ?_
  refine GL.v Wag ?_
  refine GL.nil ?_
  refine GE.seq ?_
  refine GC.seq ?_
  refine GC.region ?_
  refine GL.v Wmv ?_
  refine GL.v Wmv ?_
  refine GL.v Wln ?_
  refine GL.v Wmv ?_
  refine GL.v Wln ?_
  refine GL.v (by exact EvP.r (Ev.cut3 rfl rfl rfl Wik Wik (by omega) (by omega))) ?_
  refine GL.v Wag ?_
  refine GL.nil ?_
  refine GE.seq ?_
  refine GC.ret ?_
  -- returns, path 
  refine GE.ret_tmp (L' := L) (.inl rfl) rfl rfl Wsb ?_
  exact ⟨rfl, rfl⟩
theorem iCommitCells_spec (w0 : World) (L : List Asn) (A : Option Addr) (c : Nat) (ms : List NdM) (hG : RdG w0 L A c ms) (B : Option Addr) (d : Nat) (ls : List LiM) (hH : RdLs w0 L B d ls) (a : Int) (E : Option Addr) (e : Nat) (xs : List Int) (hX : Rd w0 L intE E e xs) (hl : ms.length ≤ 1100000) (hS : SizeLs ls) (hx : xs.length ≤ 1100000) :
    Tr Try.prog 56 #[.agg #[.slice A ms.length c], .agg #[.slice B ls.length d, .int .i64 a], .slice E xs.length e] w0 L (fun v L' => ∃ D f ns, li ns = comL (gr ms) (li ls) a xs ∧ v = .tuple #[.agg #[.slice D ns.length f, .int .i64 (comA (gr ms) (li ls) a xs)], .bool (comB (gr ms) (li ls) a xs)] ∧ L' = row slE D f ns :: rowsA ns :: L) := by
  have hSl := hS.1
  have hN := hH.nodes
  refine Tr.rd_cap hN fun hd1 hd2 => ?_
  refine Tr.enter (args := [.agg #[.slice A ms.length c], .agg #[.slice B ls.length d, .int .i64 a], .slice E xs.length e]) Try.func56 Try.ntmps56 rfl rfl ?_
  refine GC.seq ?_
  refine GC.region ?_
  refine GL.box_agg rfl rfl ?_; intro g3
  refine GL.box_agg rfl rfl ?_; intro g4
  refine GL.alloc rfl ?_; intro g6
  refine GL.v Wag ?_
  refine GL.nil ?_
  refine GE.seq ?_
  refine GC.seq ?_
  refine GC.seq ?_
  refine GC.region ?_
  refine GL.v Wlba ?_
  refine GL.v Wlba ?_
  refine GL.callF rfl rfl (iValidHistory_spec _ _ _ _ _ (by first | assumption | exact RdG.imp (by assumption) Wim | exact RdG.of_pick Wpk Wpk) _ _ _ (by first | assumption | exact RdLs.imp (by assumption) Wim | exact RdLs.of_pick Wpk Wpk) _ (by first | omega | exact SizeG.le (by assumption)) (by assumption)) ?_
  refine GL.v Wnt ?_
  refine GL.v Wmv ?_
  refine GL.gs (fun h1 => ?_) (fun h1 => ?_)
  · -- t
    refine GL.unwant rfl rfl rfl rfl ?_
    refine GL.unwant rfl rfl rfl rfl ?_
    refine GL.unwant rfl rfl rfl rfl ?_
    refine GL.unwant rfl rfl rfl rfl ?_
    refine GL.v Wpt ?_
    refine GL.v Wmv ?_
    refine GL.unwant rfl rfl rfl rfl ?_
    refine GL.unwant rfl rfl rfl rfl ?_
    refine GL.unwant rfl rfl rfl rfl ?_
    refine GL.unwant rfl rfl rfl rfl ?_
    refine GL.v Wpt ?_
    refine GL.nil ?_
    refine GE.seq ?_
    refine GC.cond_true rfl ?_
    refine GC.seq ?_
    refine GC.region ?_
    refine GL.v (by exact EvP.r (Ev.build rfl (by first | exact bdPart ⟨_, _, _, _, _⟩ | exact bdReader _ _ _ | exact bdPart4 _ _ _ _ | exact bdForm _ _ _ | exact bdForm0 | exact bdGraph0 | exact bdGraph _ _ _ | exact bdNode1 _ | exact bdNode2 _ _ _ _ | exact bdHist0 | exact bdHist1 _ _ _ | exact bdHist2 _ _ _ _))) ?_
    refine GL.store_varN rfl rfl rfl Wpk (by rfl) (by rfl) (by rfl) ?_
    refine GL.v Wag ?_
    refine GL.nil ?_
    refine GE.seq ?_
    refine GC.ret ?_
    refine GE.seq_ret ?_
    -- returns, path t
    refine GE.state (fun _ hs => hs.none_lists) ?_
    refine GE.res2 (L' := row slE none 0 [] :: rowsA [] :: L) (.inl rfl) rfl (Res1.cell rfl rfl (BlkRd.of_pick Wpk) (by rfl)) (Res1.tmp rfl) Wsb ?_
    rw [(comL_no (comB_no1 h1)).1, (comL_no (comB_no1 h1)).2, comB_no1 h1]
    exact ⟨none, 0, [], rfl, rfl, rfl⟩
  · -- f
    have hh := hisB_iff.1 h1
    rw [li_length] at hh
    refine GL.want rfl rfl ?_
    refine GL.v Wlba ?_
    refine GL.want rfl rfl ?_
    refine GL.v Wmv ?_
    refine GL.want rfl rfl ?_
    refine GL.callF rfl rfl (iValidCells_spec _ _ _ _ _ (by first | assumption | exact RdG.imp (by assumption) Wim | exact RdG.of_pick Wpk Wpk) _ _ _ Wrd (by first | omega | exact SizeG.le (by assumption)) Wom) ?_
    refine GL.want rfl rfl ?_
    refine GL.v Wnt ?_
    refine GL.v Wpf ?_
    refine GL.v Wmv ?_
    refine GL.gs (fun h2 => ?_) (fun h2 => ?_)
    · -- ft
      refine GL.unwant rfl rfl rfl rfl ?_
      refine GL.unwant rfl rfl rfl rfl ?_
      refine GL.unwant rfl rfl rfl rfl ?_
      refine GL.unwant rfl rfl rfl rfl ?_
      refine GL.v Wpt ?_
      refine GL.nil ?_
      refine GE.seq ?_
      refine GC.cond_true rfl ?_
      refine GC.seq ?_
      refine GC.region ?_
      refine GL.v (by exact EvP.r (Ev.build rfl (by first | exact bdPart ⟨_, _, _, _, _⟩ | exact bdReader _ _ _ | exact bdPart4 _ _ _ _ | exact bdForm _ _ _ | exact bdForm0 | exact bdGraph0 | exact bdGraph _ _ _ | exact bdNode1 _ | exact bdNode2 _ _ _ _ | exact bdHist0 | exact bdHist1 _ _ _ | exact bdHist2 _ _ _ _))) ?_
      refine GL.store_varN rfl rfl rfl Wpk (by rfl) (by rfl) (by rfl) ?_
      refine GL.v Wag ?_
      refine GL.nil ?_
      refine GE.seq ?_
      refine GC.ret ?_
      refine GE.seq_ret ?_
      -- returns, path ft
      refine GE.state (fun _ hs => hs.none_lists) ?_
      refine GE.res2 (L' := row slE none 0 [] :: rowsA [] :: L) (.inl rfl) rfl (Res1.cell rfl rfl (BlkRd.of_pick Wpk) (by rfl)) (Res1.tmp rfl) Wsb ?_
      rw [(comL_no (comB_no2 h2)).1, (comL_no (comB_no2 h2)).2, comB_no2 h2]
      exact ⟨none, 0, [], rfl, rfl, rfl⟩
    · -- ff
      refine GL.want rfl rfl ?_
      refine GL.v Wfa ?_
      refine GL.want rfl rfl ?_
      refine GL.v Wlb ?_
      refine GL.want rfl rfl ?_
      refine GL.v Wad ?_
      refine GL.want rfl rfl ?_
      refine GL.v Wgt ?_
      refine GL.v Wpf ?_
      refine GL.nil ?_
      refine GE.seq ?_
      refine GC.ifs (fun h3 => ?_) (fun h3 => ?_)
      · -- ffT
        refine GC.seq ?_
        refine GC.region ?_
        refine GL.v (by exact EvP.r (Ev.build rfl (by first | exact bdPart ⟨_, _, _, _, _⟩ | exact bdReader _ _ _ | exact bdPart4 _ _ _ _ | exact bdForm _ _ _ | exact bdForm0 | exact bdGraph0 | exact bdGraph _ _ _ | exact bdNode1 _ | exact bdNode2 _ _ _ _ | exact bdHist0 | exact bdHist1 _ _ _ | exact bdHist2 _ _ _ _))) ?_
        refine GL.store_varN rfl rfl rfl Wpk (by rfl) (by rfl) (by rfl) ?_
        refine GL.v Wag ?_
        refine GL.nil ?_
        refine GE.seq ?_
        refine GC.ret ?_
        refine GE.seq_ret ?_
        -- returns, path ffT
        refine GE.state (fun _ hs => hs.none_lists) ?_
        refine GE.res2 (L' := row slE none 0 [] :: rowsA [] :: L) (.inl rfl) rfl (Res1.cell rfl rfl (BlkRd.of_pick Wpk) (by rfl)) (Res1.tmp rfl) Wsb ?_
        have hno : comB (gr ms) (li ls) a xs = false := comB_no3 (by omega)
        rw [(comL_no hno).1, (comL_no hno).2, hno]
        exact ⟨none, 0, [], rfl, rfl, rfl⟩
      · -- ffF
        have hco := comB_yes h1 h2 (show a + 2 ≤ 10 by omega)
        have hk : (a + 1).toNat = (ls.take (a + 1).toNat).length := by rw [List.length_take]; omega
        refine GC.skip ?_
        refine GE.seq ?_
        refine GC.seq ?_
        refine GC.region ?_
        refine GL.v Wfa ?_
        refine GL.v Wlb ?_
        refine GL.v Wfa ?_
        refine GL.v Wlb ?_
        refine GL.v Wad ?_
        refine GL.v (by exact EvP.r (Ev.cut_to rfl rfl Wik (by omega))) ?_
        refine GL.call rfl rfl (Tr.len1 hk (copyReads_spec w0 _ B d (ls.take (a + 1).toNat) ((hH.take _).imp Wim) (hS.take _))) ?_
        rintro _ _ ⟨B32, ms32, hli32, rfl, rfl⟩
        have hml : ms32.length = (a + 1).toNat := by rw [li_eq_length hli32, ← hk]
        refine GL.v Wmv ?_
        refine GL.call rfl rfl (cloneInt_spec _ _ _ _ _ (hX.imp Wim) hx) ?_
        rintro _ _ ⟨B34, rfl, rfl⟩
        refine GL.buildSlice rfl (by first | exact bsInt0 | exact bsInt1 _ | exact bsInt2 _ _ | exact bsInt3 _ _ _ | exact bsInt4 _ _ _ _ | exact bsInt5 _ _ _ _ _ | exact bsInt6 _ _ _ _ _ _ | exact bsInt7 _ _ _ _ _ _ _ | exact bsInt8 _ _ _ _ _ _ _ _ | exact bsInt9 _ _ _ _ _ _ _ _ _ | exact bsInt10 _ _ _ _ _ _ _ _ _ _ | exact bsPart0 | exact bsPart1 ⟨_, _, _, _, _⟩ | exact bsNode1 ⟨_, _, _, _⟩ | exact bsPtr3 _ _ _ | exact bsSl0 | exact bsSl1 ⟨_, _, _⟩) rfl (by decide) rfl ?_; intro g35
        first | (refine GL.append rfl rfl Wpk (by assumption) Wim (by first | rfl | (simp; done) | (simp; omega)) (by first | rfl | (simp; done) | (simp; omega)) (by first | omega | (simp; omega)) (by first | omega | (simp; omega)) rfl ?_; intro A36 c36) | (refine GL.append rfl rfl Wpk (Rd.of_pick Wpk) Imp.refl (by first | rfl | (simp; done) | (simp; omega)) (by first | rfl | (simp; done) | (simp; omega)) (by first | omega | (simp; omega)) (by first | omega | (simp; omega)) rfl ?_; intro A36 c36)
        refine GL.row_cap (E := slE) (A := A36) Wpk fun hc1 hc2 => ?_
        refine GL.v Wag ?_
        refine GL.nil ?_
        refine GE.seq ?_
        refine GC.seq ?_
        refine GC.region_any #[false, true, false, false, false, false, true, false] mixed ?_
        refine GA.take 0 #[false, false, true, true, true, false, false, false] rfl (by exact Ev.move rfl) rfl rfl (by kernel_rfl) rfl (by kernel_rfl) (by kernel_rfl) (fun _ _ _ h => h) ?_
        refine GA.take 2 #[true, true, false, false, false, false, false, false] rfl (by exact Ev.fieldAddr rfl) rfl rfl (by kernel_rfl) rfl (by kernel_rfl) (by kernel_rfl) (fun _ _ _ h => h) ?_
        refine GA.read 3 #[true, true, true, false, false, false, false, false] rfl (by exact Wlb) rfl rfl (by kernel_rfl) rfl (by kernel_rfl) (by kernel_rfl) (fun _ _ _ h => h) ?_
        refine GA.take 4 #[true, true, true, true, false, false, false, false] rfl (by exact Ev.add rfl rfl (by omega)) rfl rfl (by kernel_rfl) rfl (by kernel_rfl) (by kernel_rfl) (fun _ _ _ h => h) ?_
        refine GA.branch (rs := [1]) (JOk.live (by exact Wlb) JOk.nil) (by kernel_rfl) (by simp) ?_
        refine GAs.cons rfl ?_ ?_
        · -- ffF op 1
          refine GL.callF rfl rfl (ClipSl_spec _ _ _ _ _ Wom) ?_
          refine GL.nil ?_
          refine GE.any ?_
          refine GA.take 5 #[true, true, true, true, true, false, false, false] rfl (by exact Ev.build rfl (by first | exact bdPart ⟨_, _, _, _, _⟩ | exact bdReader _ _ _ | exact bdPart4 _ _ _ _ | exact bdForm _ _ _ | exact bdForm0 | exact bdGraph0 | exact bdGraph _ _ _ | exact bdNode1 _ | exact bdNode2 _ _ _ _ | exact bdHist0 | exact bdHist1 _ _ _ | exact bdHist2 _ _ _ _)) rfl rfl (by kernel_rfl) rfl (by kernel_rfl) (by kernel_rfl) (fun _ _ _ h => h) ?_
          refine GA.branch (rs := [6]) (JOk.live (by exact Wlb) JOk.nil) (by kernel_rfl) (by simp) ?_
          refine GAs.cons rfl ?_ ?_
          · -- ffF op 6
            refine GL.store_varN rfl rfl rfl Wpk (by rfl) (by rfl) (by rfl) ?_
            refine GL.nil ?_
            refine GE.any ?_
            refine GA.take 7 #[true, true, true, true, true, true, true, false] rfl (by exact Ev.assign rfl) rfl rfl (by kernel_rfl) rfl (by kernel_rfl) (by kernel_rfl) (fun _ _ _ h => h) ?_
            refine GA.done (JOk.dead (by kernel_rfl) JOk.nil) (by kernel_rfl) ?_
            refine GE.seq ?_
            refine GC.ret ?_
            -- returns, path ffF
            refine GE.rows_snoc ⟨B34, xs.length, xs⟩ Wpk Wpk ?_
            refine GE.row_clip (E := slE) (A := A36) (xs := ms32 ++ [⟨B34, xs.length, xs⟩]) Wpk hc1 ?_
            refine GE.res2 (L' := row slE A36 (ms32 ++ [(⟨B34, xs.length, xs⟩ : LiM)]).length (ms32 ++ [⟨B34, xs.length, xs⟩]) :: rowsA (ms32 ++ [⟨B34, xs.length, xs⟩]) :: L) (.inl rfl) rfl (Res1.cell rfl rfl (BlkRd.of_pick Wpk) (by rfl)) (Res1.tmp rfl) Wsb ?_
            exact ⟨A36, _, ms32 ++ [⟨B34, xs.length, xs⟩], by rw [li_append, hli32, li_take, (comL_yes hco).1, show (a + 1).toNat = a.toNat + 1 by omega]; rfl, by rw [(comL_yes hco).2, hco], rfl⟩
          exact GAs.nil
        exact GAs.nil
theorem copyHistory_spec (w0 : World) (L : List Asn) (B : Option Addr) (d : Nat) (ls : List LiM) (hH : RdLs w0 L B d ls) (a : Int) (hS : SizeLs ls) :
    Tr Try.prog 109 #[.agg #[.slice B ls.length d, .int .i64 a]] w0 L (fun v L' => ∃ D e ms, li ms = li ls ∧ v = .agg #[.slice D ms.length e, .int .i64 a] ∧ L' = row slE D e ms :: rowsA ms :: L) := by
  refine Tr.enter (args := [.agg #[.slice B ls.length d, .int .i64 a]]) Try.func109 Try.ntmps109 rfl rfl ?_
  refine GC.seq ?_
  refine GC.region ?_
  refine GL.box_agg rfl rfl ?_; intro g1
  refine GL.alloc rfl ?_; intro g2
  refine GL.nil ?_
  refine GE.seq ?_
  refine GC.seq ?_
  refine GC.region_any #[false, false, true, false, false, false, true] mixed ?_
  refine GA.take 0 #[false, false, false, true, true, false, false] rfl (by exact Ev.fieldAddr rfl) rfl rfl (by kernel_rfl) rfl (by kernel_rfl) (by kernel_rfl) (fun _ _ _ h => h) ?_
  refine GA.read 1 #[true, false, false, true, true, false, false] rfl (by exact Wlb) rfl rfl (by kernel_rfl) rfl (by kernel_rfl) (by kernel_rfl) (fun _ _ _ h => h) ?_
  refine GA.take 3 #[true, true, true, false, false, false, false] rfl (by exact Ev.fieldAddr rfl) rfl rfl (by kernel_rfl) rfl (by kernel_rfl) (by kernel_rfl) (fun _ _ _ h => h) ?_
  refine GA.read 4 #[true, true, true, true, false, false, false] rfl (by exact Wlb) rfl rfl (by kernel_rfl) rfl (by kernel_rfl) (by kernel_rfl) (fun _ _ _ h => h) ?_
  refine GA.branch (rs := [2]) (JOk.live (by exact Wlb) (JOk.live (by exact Wlb) JOk.nil)) (by kernel_rfl) (by simp) ?_
  refine GAs.cons rfl ?_ ?_
  · --  op 2
    refine GL.call rfl rfl (copyLists_spec _ _ _ _ _ (by first | assumption | exact RdLs.imp (by assumption) Wim | exact RdLs.of_pick Wpk Wpk) (by assumption)) ?_
    rintro _ _ ⟨B5, d5, ms5, hli5, rfl, rfl⟩
    refine GL.nil ?_
    refine GE.any ?_
    refine GA.take 5 #[true, true, true, true, true, false, false] rfl (by exact Ev.build rfl (by first | exact bdPart ⟨_, _, _, _, _⟩ | exact bdReader _ _ _ | exact bdPart4 _ _ _ _ | exact bdForm _ _ _ | exact bdForm0 | exact bdGraph0 | exact bdGraph _ _ _ | exact bdNode1 _ | exact bdNode2 _ _ _ _ | exact bdHist0 | exact bdHist1 _ _ _ | exact bdHist2 _ _ _ _)) rfl rfl (by kernel_rfl) rfl (by kernel_rfl) (by kernel_rfl) (fun _ _ _ h => h) ?_
    refine GA.branch (rs := [6]) (JOk.live (by exact Wlb) (JOk.dead (by kernel_rfl) JOk.nil)) (by kernel_rfl) (by simp) ?_
    refine GAs.cons rfl ?_ ?_
    · --  op 6
      refine GL.store_varN rfl rfl rfl Wpk (by rfl) (by rfl) (by rfl) ?_
      refine GL.nil ?_
      refine GE.any ?_
      refine GA.done (JOk.dead (by kernel_rfl) (JOk.dead (by kernel_rfl) JOk.nil)) (by kernel_rfl) ?_
      refine GE.seq ?_
      refine GC.ret ?_
      -- returns, path 
      refine GE.ret_cell (L' := row slE B5 d5 ms5 :: rowsA ms5 :: L) (.inl rfl) rfl rfl rfl (BlkRd.of_pick Wpk) (by rfl) Wsb ?_
      exact ⟨_, _, ms5, hli5, rfl, rfl⟩
    exact GAs.nil
  exact GAs.nil
theorem sCommitCells_spec (w0 : World) (L : List Asn) (A : Option Addr) (c : Nat) (ms : List NdM) (hG : RdG w0 L A c ms) (B : Option Addr) (d : Nat) (ls : List LiM) (hH : RdLs w0 L B d ls) (a : Int) (E : Option Addr) (e : Nat) (xs : List Int) (hX : Rd w0 L intE E e xs) (hSg : SizeG ms) (hS : SizeLs ls) (hx : xs.length ≤ 1100000) :
    Tr Try.prog 57 #[.agg #[.slice A ms.length c], .agg #[.slice B ls.length d, .int .i64 a], .slice E xs.length e] w0 L (fun v L' => ∃ D f ns, li ns = comL (gr ms) (li ls) a xs ∧ v = .tuple #[.agg #[.slice D ns.length f, .int .i64 (comA (gr ms) (li ls) a xs)], .bool (comB (gr ms) (li ls) a xs)] ∧ L' = row slE D f ns :: rowsA ns :: L) := by
  have hSl := hS.1
  have hN := hH.nodes
  refine Tr.enter (args := [.agg #[.slice A ms.length c], .agg #[.slice B ls.length d, .int .i64 a], .slice E xs.length e]) Try.func57 Try.ntmps57 rfl rfl ?_
  refine GC.seq ?_
  refine GC.region ?_
  refine GL.box_agg rfl rfl ?_; intro g3
  refine GL.box_agg rfl rfl ?_; intro g4
  refine GL.alloc rfl ?_; intro g6
  refine GL.v Wag ?_
  refine GL.nil ?_
  refine GE.seq ?_
  refine GC.seq ?_
  refine GC.seq ?_
  refine GC.region ?_
  refine GL.v Wlba ?_
  refine GL.v Wlba ?_
  refine GL.callF rfl rfl (svalidHistory_spec _ _ _ _ _ (by first | assumption | exact RdG.imp (by assumption) Wim | exact RdG.of_pick Wpk Wpk) _ _ _ (hH.imp Wim) _ hSg hS) ?_
  refine GL.v Wnt ?_
  refine GL.v Wmv ?_
  refine GL.gs (fun h1 => ?_) (fun h1 => ?_)
  · -- t
    refine GL.unwant rfl rfl rfl rfl ?_
    refine GL.unwant rfl rfl rfl rfl ?_
    refine GL.unwant rfl rfl rfl rfl ?_
    refine GL.unwant rfl rfl rfl rfl ?_
    refine GL.v Wpt ?_
    refine GL.v Wmv ?_
    refine GL.unwant rfl rfl rfl rfl ?_
    refine GL.unwant rfl rfl rfl rfl ?_
    refine GL.unwant rfl rfl rfl rfl ?_
    refine GL.unwant rfl rfl rfl rfl ?_
    refine GL.v Wpt ?_
    refine GL.nil ?_
    refine GE.seq ?_
    refine GC.cond_true rfl ?_
    refine GC.seq ?_
    refine GC.region ?_
    refine GL.v (by exact EvP.r (Ev.build rfl (by first | exact bdPart ⟨_, _, _, _, _⟩ | exact bdReader _ _ _ | exact bdPart4 _ _ _ _ | exact bdForm _ _ _ | exact bdForm0 | exact bdGraph0 | exact bdGraph _ _ _ | exact bdNode1 _ | exact bdNode2 _ _ _ _ | exact bdHist0 | exact bdHist1 _ _ _ | exact bdHist2 _ _ _ _))) ?_
    refine GL.store_varN rfl rfl rfl Wpk (by rfl) (by rfl) (by rfl) ?_
    refine GL.v Wag ?_
    refine GL.nil ?_
    refine GE.seq ?_
    refine GC.ret ?_
    refine GE.seq_ret ?_
    -- returns, path t
    refine GE.state (fun _ hs => hs.none_lists) ?_
    refine GE.res2 (L' := row slE none 0 [] :: rowsA [] :: L) (.inl rfl) rfl (Res1.cell rfl rfl (BlkRd.of_pick Wpk) (by rfl)) (Res1.tmp rfl) Wsb ?_
    rw [(comL_no (comB_no1 h1)).1, (comL_no (comB_no1 h1)).2, comB_no1 h1]
    exact ⟨none, 0, [], rfl, rfl, rfl⟩
  · -- f
    have hh := hisB_iff.1 h1
    rw [li_length] at hh
    refine GL.want rfl rfl ?_
    refine GL.v Wlba ?_
    refine GL.want rfl rfl ?_
    refine GL.v Wmv ?_
    refine GL.want rfl rfl ?_
    refine GL.callF rfl rfl (svalidCells_spec _ _ _ _ _ (by first | assumption | exact RdG.imp (by assumption) Wim | exact RdG.of_pick Wpk Wpk) _ _ _ Wrd Wom) ?_
    refine GL.want rfl rfl ?_
    refine GL.v Wnt ?_
    refine GL.v Wpf ?_
    refine GL.v Wmv ?_
    refine GL.gs (fun h2 => ?_) (fun h2 => ?_)
    · -- ft
      refine GL.unwant rfl rfl rfl rfl ?_
      refine GL.unwant rfl rfl rfl rfl ?_
      refine GL.unwant rfl rfl rfl rfl ?_
      refine GL.unwant rfl rfl rfl rfl ?_
      refine GL.v Wpt ?_
      refine GL.nil ?_
      refine GE.seq ?_
      refine GC.cond_true rfl ?_
      refine GC.seq ?_
      refine GC.region ?_
      refine GL.v (by exact EvP.r (Ev.build rfl (by first | exact bdPart ⟨_, _, _, _, _⟩ | exact bdReader _ _ _ | exact bdPart4 _ _ _ _ | exact bdForm _ _ _ | exact bdForm0 | exact bdGraph0 | exact bdGraph _ _ _ | exact bdNode1 _ | exact bdNode2 _ _ _ _ | exact bdHist0 | exact bdHist1 _ _ _ | exact bdHist2 _ _ _ _))) ?_
      refine GL.store_varN rfl rfl rfl Wpk (by rfl) (by rfl) (by rfl) ?_
      refine GL.v Wag ?_
      refine GL.nil ?_
      refine GE.seq ?_
      refine GC.ret ?_
      refine GE.seq_ret ?_
      -- returns, path ft
      refine GE.state (fun _ hs => hs.none_lists) ?_
      refine GE.res2 (L' := row slE none 0 [] :: rowsA [] :: L) (.inl rfl) rfl (Res1.cell rfl rfl (BlkRd.of_pick Wpk) (by rfl)) (Res1.tmp rfl) Wsb ?_
      have hno : cellsV (gr ms) xs = false := by rw [cellsV, h2]; simp
      rw [(comL_no (comB_no2 hno)).1, (comL_no (comB_no2 hno)).2, comB_no2 hno]
      exact ⟨none, 0, [], rfl, rfl, rfl⟩
    · -- ff
      refine GL.want rfl rfl ?_
      refine GL.v Wfa ?_
      refine GL.want rfl rfl ?_
      refine GL.v Wlb ?_
      refine GL.want rfl rfl ?_
      refine GL.v Wad ?_
      refine GL.want rfl rfl ?_
      refine GL.v Weq ?_
      refine GL.v Wpf ?_
      refine GL.nil ?_
      refine GE.seq ?_
      refine GC.ifs (fun h3 => ?_) (fun h3 => ?_)
      · -- ffT
        refine GC.seq ?_
        refine GC.region ?_
        refine GL.v (by exact EvP.r (Ev.build rfl (by first | exact bdPart ⟨_, _, _, _, _⟩ | exact bdReader _ _ _ | exact bdPart4 _ _ _ _ | exact bdForm _ _ _ | exact bdForm0 | exact bdGraph0 | exact bdGraph _ _ _ | exact bdNode1 _ | exact bdNode2 _ _ _ _ | exact bdHist0 | exact bdHist1 _ _ _ | exact bdHist2 _ _ _ _))) ?_
        refine GL.store_varN rfl rfl rfl Wpk (by rfl) (by rfl) (by rfl) ?_
        refine GL.v Wag ?_
        refine GL.nil ?_
        refine GE.seq ?_
        refine GC.ret ?_
        refine GE.seq_ret ?_
        -- returns, path ffT
        refine GE.state (fun _ hs => hs.none_lists) ?_
        refine GE.res2 (L' := row slE none 0 [] :: rowsA [] :: L) (.inl rfl) rfl (Res1.cell rfl rfl (BlkRd.of_pick Wpk) (by rfl)) (Res1.tmp rfl) Wsb ?_
        have hno : comB (gr ms) (li ls) a xs = false := comB_no3 (by omega)
        rw [(comL_no hno).1, (comL_no hno).2, hno]
        exact ⟨none, 0, [], rfl, rfl, rfl⟩
      · -- ffF
        have hco := comB_yes h1 (show cellsV (gr ms) xs = true by rw [cellsV, hh.1, h2]; rfl) (show a + 2 ≤ 10 by omega)
        refine GC.skip ?_
        refine GE.seq ?_
        refine GC.seq ?_
        refine GC.region ?_
        refine GL.v Wlba ?_
        refine GL.call rfl rfl (copyHistory_spec w0 _ B d ls (hH.imp Wim) a hS) ?_
        rintro _ _ ⟨B27, d27, ms27, hli27, rfl, rfl⟩
        have hml := li_eq_length hli27
        refine GL.row_cap (E := slE) (A := B27) Wpk fun hd1 hd2 => ?_
        refine GL.row_take (E := slE) (A := B27) (a + 1).toNat Wpk ?_
        refine GL.state (fun w hs => St.rows_take (ms := ms27) (a + 1).toNat Wpk hs) ?_
        have hmt : (ms27.take (a + 1).toNat).length = (a + 1).toNat := by rw [List.length_take]; omega
        refine GL.alloc rfl ?_; intro g8
        refine GL.store_varN rfl rfl rfl Wpk (by rfl) (by rfl) (by rfl) ?_
        refine GL.nil ?_
        refine GE.seq ?_
        refine GC.seq ?_
        refine GC.region_any #[false, false, false, false, false, false, false, true, true, true, false, true] mixed ?_
        refine GA.take 0 #[false, false, true, true, true, false, true, true, true, false, false, false] rfl (by exact Ev.fieldAddr rfl) rfl rfl (by kernel_rfl) rfl (by kernel_rfl) (by kernel_rfl) (fun _ _ _ h => h) ?_
        refine GA.read 1 #[true, false, true, true, true, false, true, true, true, false, false, false] rfl (by exact Wlb) rfl rfl (by kernel_rfl) rfl (by kernel_rfl) (by kernel_rfl) (fun _ _ _ h => h) ?_
        refine GA.take 2 #[true, true, false, false, false, false, true, true, true, false, false, false] rfl (by exact Ev.fieldAddr rfl) rfl rfl (by kernel_rfl) rfl (by kernel_rfl) (by kernel_rfl) (fun _ _ _ h => h) ?_
        refine GA.read 3 #[true, true, true, false, false, false, true, true, true, false, false, false] rfl (by exact Wlb) rfl rfl (by kernel_rfl) rfl (by kernel_rfl) (by kernel_rfl) (fun _ _ _ h => h) ?_
        refine GA.take 4 #[true, true, true, true, false, false, true, true, true, false, false, false] rfl (by exact Ev.add rfl rfl (by omega)) rfl rfl (by kernel_rfl) rfl (by kernel_rfl) (by kernel_rfl) (fun _ _ _ h => h) ?_
        refine GA.take 5 #[true, true, true, true, true, false, true, true, true, false, false, false] rfl (by exact Ev.cut_to rfl rfl Wik (by omega)) rfl rfl (by kernel_rfl) rfl (by kernel_rfl) (by kernel_rfl) (fun _ _ _ h => h) ?_
        refine GA.take 6 #[true, true, true, true, true, true, false, false, false, false, false, false] rfl (by exact Ev.move rfl) rfl rfl (by kernel_rfl) rfl (by kernel_rfl) (by kernel_rfl) (fun _ _ _ h => h) ?_
        refine GA.branch (rs := [7]) (JOk.live (by exact Wlb) (JOk.live (by exact Wlb) JOk.nil)) (by kernel_rfl) (by simp) ?_
        refine GAs.cons rfl ?_ ?_
        · -- ffF op 7
          refine GL.call rfl rfl (copyInts_spec _ _ _ _ _ (hX.imp Wim) hx) ?_
          rintro _ _ ⟨B35, d35, rfl, rfl⟩
          refine GL.nil ?_
          refine GE.any ?_
          refine GA.branch (rs := [8]) (JOk.live (by exact Wlb) (JOk.live (by exact Wlb) JOk.nil)) (by kernel_rfl) (by simp) ?_
          refine GAs.cons rfl ?_ ?_
          · -- ffF op 8
            refine GL.buildSlice rfl (by first | exact bsInt0 | exact bsInt1 _ | exact bsInt2 _ _ | exact bsInt3 _ _ _ | exact bsInt4 _ _ _ _ | exact bsInt5 _ _ _ _ _ | exact bsInt6 _ _ _ _ _ _ | exact bsInt7 _ _ _ _ _ _ _ | exact bsInt8 _ _ _ _ _ _ _ _ | exact bsInt9 _ _ _ _ _ _ _ _ _ | exact bsInt10 _ _ _ _ _ _ _ _ _ _ | exact bsPart0 | exact bsPart1 ⟨_, _, _, _, _⟩ | exact bsNode1 ⟨_, _, _, _⟩ | exact bsPtr3 _ _ _ | exact bsSl0 | exact bsSl1 ⟨_, _, _⟩) rfl (by decide) rfl ?_; intro g36
            refine GL.nil ?_
            refine GE.any ?_
            refine GA.branch (rs := [9]) (JOk.live (by exact Wlb) (JOk.live (by exact Wlb) JOk.nil)) (by kernel_rfl) (by simp) ?_
            refine GAs.cons rfl ?_ ?_
            · -- ffF op 9
              first | (refine GL.append rfl rfl Wpk (by assumption) Wim (by first | rfl | (simp; done) | (simp; omega)) (by first | rfl | (simp; done) | (simp; omega)) (by first | omega | (simp; omega)) (by first | omega | (simp; omega)) rfl ?_; intro A37 c37) | (refine GL.append rfl rfl Wpk (Rd.of_pick Wpk) Imp.refl (by first | rfl | (simp; done) | (simp; omega)) (by first | rfl | (simp; done) | (simp; omega)) (by first | omega | (simp; omega)) (by first | omega | (simp; omega)) rfl ?_; intro A37 c37)
              refine GL.nil ?_
              refine GE.any ?_
              refine GA.take 10 #[true, true, true, true, true, true, true, true, true, true, false, false] rfl (by exact Ev.fieldAddr rfl) rfl rfl (by kernel_rfl) rfl (by kernel_rfl) (by kernel_rfl) (fun _ _ _ h => h) ?_
              refine GA.branch (rs := [11]) (JOk.dead (by kernel_rfl) (JOk.dead (by kernel_rfl) JOk.nil)) (by kernel_rfl) (by simp) ?_
              refine GAs.cons rfl ?_ ?_
              · -- ffF op 11
                refine GL.store_blk rfl rfl rfl Wpk (Nat.lt_of_lt_of_le (Nat.le_of_ble_eq_true (by rfl)) (Nat.le_refl _)) (by rfl) (by rfl) ?_
                refine GL.nil ?_
                refine GE.any ?_
                refine GA.done (JOk.dead (by kernel_rfl) (JOk.dead (by kernel_rfl) JOk.nil)) (by kernel_rfl) ?_
                refine GE.seq ?_
                refine GC.seq ?_
                refine GC.region ?_
                refine GL.v Wfa ?_
                refine GL.v Wlb ?_
                refine GL.v Wad ?_
                refine GL.v Wfa ?_
                refine GL.store_blk rfl rfl rfl Wpk (Nat.lt_of_lt_of_le (Nat.le_of_ble_eq_true (by rfl)) (Nat.le_refl _)) (by rfl) (by rfl) ?_
                refine GL.nil ?_
                refine GE.seq ?_
                refine GC.seq ?_
                refine GC.region ?_
                refine GL.v Wlba ?_
                refine GL.store_varN rfl rfl rfl Wpk (by rfl) (by rfl) (by rfl) ?_
                refine GL.v Wag ?_
                refine GL.nil ?_
                refine GE.seq ?_
                refine GC.ret ?_
                -- returns, path ffF
                refine GE.rows_snoc ⟨B35, d35, xs⟩ Wpk Wpk ?_
                refine GE.res2 (L' := row slE A37 c37 (ms27.take (a + 1).toNat ++ [⟨B35, d35, xs⟩]) :: rowsA (ms27.take (a + 1).toNat ++ [⟨B35, d35, xs⟩]) :: L) (.inl rfl) rfl (Res1.cell rfl rfl (BlkRd.of_pick Wpk) (by rfl)) (Res1.tmp rfl) Wsb ?_
                exact ⟨A37, c37, ms27.take (a + 1).toNat ++ [⟨B35, d35, xs⟩], by rw [li_append, li_take, hli27, (comL_yes hco).1, show (a + 1).toNat = a.toNat + 1 by omega]; rfl, by rw [(comL_yes hco).2, hco]; rfl, rfl⟩
              exact GAs.nil
            exact GAs.nil
          exact GAs.nil
        exact GAs.nil
theorem li_getD {ls : List LiM} {i : Nat} (h : i < ls.length) : (li ls).getD i [] = ls[i].xs := by
  rw [List.getD_eq_getElem?_getD, List.getElem?_eq_getElem (by simpa using h), Option.getD_some, li_get]
theorem MoveHistory_spec (w0 : World) (L : List Asn) (A : Option Addr) (c : Nat) (ms : List NdM) (hG : RdG w0 L A c ms) (B : Option Addr) (d : Nat) (ls : List LiM) (hH : RdLs w0 L B d ls) (a b : Int) (hl : ms.length ≤ 1100000) (hS : SizeLs ls) (hb : -100 ≤ b ∧ b ≤ 100) (ha : -9223372036854775808 < a ∧ a ≤ 9223372036854775807) :
    Tr Try.prog 52 #[.agg #[.slice A ms.length c], .agg #[.slice B ls.length d, .int .i64 a], .int .i64 b] w0 L (fun v L' => ∃ D e ns E f, li ns = movS (gr ms) (li ls) a b ∧ v = .tuple #[.agg #[.slice D ns.length e, .int .i64 (movA (gr ms) (li ls) a b)], .slice E (movL (gr ms) (li ls) a b).length f, .bool (movB (gr ms) (li ls) a b)] ∧ L' = row slE D e ns :: rowsA ns :: row intE E f (movL (gr ms) (li ls) a b) :: L) := by
  have hSl := hS.1
  have hN := hH.nodes
  refine Tr.enter (args := [.agg #[.slice A ms.length c], .agg #[.slice B ls.length d, .int .i64 a], .int .i64 b]) Try.func52 Try.ntmps52 rfl rfl ?_
  refine GC.seq ?_
  refine GC.region ?_
  refine GL.box_agg rfl rfl ?_; intro g3
  refine GL.box_agg rfl rfl ?_; intro g4
  refine GL.alloc rfl ?_; intro g6
  refine GL.v Wag ?_
  refine GL.v Wag ?_
  refine GL.nil ?_
  refine GE.seq ?_
  refine GC.seq ?_
  refine GC.seq ?_
  refine GC.region ?_
  refine GL.v Wlba ?_
  refine GL.v Wlba ?_
  refine GL.callF rfl rfl (iValidHistory_spec _ _ _ _ _ (by first | assumption | exact RdG.imp (by assumption) Wim | exact RdG.of_pick Wpk Wpk) _ _ _ (by first | assumption | exact RdLs.imp (by assumption) Wim | exact RdLs.of_pick Wpk Wpk) _ (by first | omega | exact SizeG.le (by assumption)) (by assumption)) ?_
  refine GL.v Wnt ?_
  refine GL.v Wmv ?_
  refine GL.gs (fun h1 => ?_) (fun h1 => ?_)
  · -- t
    refine GL.unwant rfl rfl rfl rfl ?_
    refine GL.unwant rfl rfl rfl rfl ?_
    refine GL.unwant rfl rfl rfl rfl ?_
    refine GL.unwant rfl rfl rfl rfl ?_
    refine GL.unwant rfl rfl rfl rfl ?_
    refine GL.unwant rfl rfl rfl rfl ?_
    refine GL.unwant rfl rfl rfl rfl ?_
    refine GL.unwant rfl rfl rfl rfl ?_
    refine GL.unwant rfl rfl rfl rfl ?_
    refine GL.unwant rfl rfl rfl rfl ?_
    refine GL.unwant rfl rfl rfl rfl ?_
    refine GL.unwant rfl rfl rfl rfl ?_
    refine GL.unwant rfl rfl rfl rfl ?_
    refine GL.v Wpt ?_
    refine GL.nil ?_
    refine GE.seq ?_
    refine GC.cond_true rfl ?_
    refine GC.seq ?_
    refine GC.region ?_
    refine GL.v (by exact EvP.r (Ev.build rfl (by first | exact bdPart ⟨_, _, _, _, _⟩ | exact bdReader _ _ _ | exact bdPart4 _ _ _ _ | exact bdForm _ _ _ | exact bdForm0 | exact bdGraph0 | exact bdGraph _ _ _ | exact bdNode1 _ | exact bdNode2 _ _ _ _ | exact bdHist0 | exact bdHist1 _ _ _ | exact bdHist2 _ _ _ _))) ?_
    refine GL.store_varN rfl rfl rfl Wpk (by rfl) (by rfl) (by rfl) ?_
    refine GL.v Wag ?_
    refine GL.v Wag ?_
    refine GL.nil ?_
    refine GE.seq ?_
    refine GC.ret ?_
    refine GE.seq_ret ?_
    -- returns, path t
    refine GE.state (fun _ hs => (hs.empty intE none).none_lists) ?_
    refine GE.res3 (L' := row slE none 0 [] :: rowsA [] :: row intE none 0 [] :: L) (.inl rfl) rfl (Res1.cell rfl rfl (BlkRd.of_pick Wpk) (by rfl)) (Res1.tmp rfl) (Res1.tmp rfl) Wsb ?_
    have hno : movB (gr ms) (li ls) a b = false := by rw [movB, h1]; rfl
    rw [(mov_no hno).1, (mov_no hno).2.1, (mov_no hno).2.2, hno]
    exact ⟨none, 0, [], none, 0, rfl, rfl, rfl⟩
  · -- f
    have hh := hisB_iff.1 h1
    rw [li_length] at hh
    refine GL.want rfl rfl ?_
    refine GL.v Wmv ?_
    refine GL.want rfl rfl ?_
    refine GL.v Wfa ?_
    refine GL.want rfl rfl ?_
    refine GL.v Wlb ?_
    refine GL.want rfl rfl ?_
    refine GL.v (EvP.r (Ev.neg rfl (by omega))) ?_
    refine GL.want rfl rfl ?_
    refine GL.v Wfa ?_
    refine GL.want rfl rfl ?_
    refine GL.v Wlb ?_
    refine GL.want rfl rfl ?_
    refine GL.v Wln ?_
    refine GL.want rfl rfl ?_
    refine GL.v Wsu ?_
    refine GL.want rfl rfl ?_
    refine GL.v Wfa ?_
    refine GL.want rfl rfl ?_
    refine GL.v Wlb ?_
    refine GL.want rfl rfl ?_
    refine GL.v Wsu ?_
    refine GL.want rfl rfl ?_
    refine GL.callF rfl rfl (in_spec _ _ _ _ _) ?_
    refine GL.want rfl rfl ?_
    refine GL.v Wnt ?_
    refine GL.v Wpf ?_
    refine GL.nil ?_
    refine GE.seq ?_
    refine GC.ifs (fun h2 => ?_) (fun h2 => ?_)
    · -- fT
      refine GC.seq ?_
      refine GC.region ?_
      refine GL.v (by exact EvP.r (Ev.build rfl (by first | exact bdPart ⟨_, _, _, _, _⟩ | exact bdReader _ _ _ | exact bdPart4 _ _ _ _ | exact bdForm _ _ _ | exact bdForm0 | exact bdGraph0 | exact bdGraph _ _ _ | exact bdNode1 _ | exact bdNode2 _ _ _ _ | exact bdHist0 | exact bdHist1 _ _ _ | exact bdHist2 _ _ _ _))) ?_
      refine GL.store_varN rfl rfl rfl Wpk (by rfl) (by rfl) (by rfl) ?_
      refine GL.v Wag ?_
      refine GL.v Wag ?_
      refine GL.nil ?_
      refine GE.seq ?_
      refine GC.ret ?_
      refine GE.seq_ret ?_
      -- returns, path fT
      refine GE.state (fun _ hs => (hs.empty intE none).none_lists) ?_
      refine GE.res3 (L' := row slE none 0 [] :: rowsA [] :: row intE none 0 [] :: L) (.inl rfl) rfl (Res1.cell rfl rfl (BlkRd.of_pick Wpk) (by rfl)) (Res1.tmp rfl) (Res1.tmp rfl) Wsb ?_
      have hno : movB (gr ms) (li ls) a b = false := by rw [movB, li_length, h2]; simp
      rw [(mov_no hno).1, (mov_no hno).2.1, (mov_no hno).2.2, hno]
      exact ⟨none, 0, [], none, 0, rfl, rfl, rfl⟩
    · -- fF
      have hm : movB (gr ms) (li ls) a b = true := by rw [movB, h1, li_length, h2]; rfl
      have hb2 := inB_iff.1 h2
      have ha1 : a.toNat < ls.length := by omega
      have ha2 : (a + b).toNat < ls.length := by omega
      refine GC.skip ?_
      refine GE.seq ?_
      refine GC.seq ?_
      refine GC.region ?_
      refine GL.v Wfa ?_
      refine GL.v Wlb ?_
      refine GL.v Wmv ?_
      refine GL.v Wad ?_
      refine GL.v Wag ?_
      refine GL.nil ?_
      refine GE.seq ?_
      refine GC.seq ?_
      refine GC.region_any #[false, false, true, false, false, false, false, false, false, false, false, false, false, false, false, false, false, true, true, false, false] mixed ?_
      refine GA.take 0 #[false, false, false, true, false, true, true, true, true, true, true, true, true, true, true, true, true, false, false, false, false] rfl (by exact Ev.fieldAddr rfl) rfl rfl (by kernel_rfl) rfl (by kernel_rfl) (by kernel_rfl) (fun _ _ _ h => h) ?_
      refine GA.read 1 #[true, false, false, true, false, true, true, true, true, true, true, true, true, true, true, true, true, false, false, false, false] rfl (by exact Wlb) rfl rfl (by kernel_rfl) rfl (by kernel_rfl) (by kernel_rfl) (fun _ _ _ h => h) ?_
      refine GA.take 3 #[true, true, true, false, false, true, true, true, true, true, true, true, true, true, true, true, true, true, false, false, false] rfl (by exact Ev.move rfl) rfl rfl (by kernel_rfl) rfl (by kernel_rfl) (by kernel_rfl) (fun _ _ _ h => h) ?_
      refine GA.read 5 #[true, true, true, true, true, false, true, true, true, true, true, true, true, true, true, true, true, false, false, false, false] rfl (by exact Wlba) rfl rfl (by kernel_rfl) rfl (by kernel_rfl) (by kernel_rfl) (fun _ _ _ h => h) ?_
      refine GA.take 6 #[true, true, true, true, true, true, false, false, true, true, false, false, true, true, true, true, true, false, false, false, false] rfl (by exact Ev.fieldAddr rfl) rfl rfl (by kernel_rfl) rfl (by kernel_rfl) (by kernel_rfl) (fun _ _ _ h => h) ?_
      refine GA.read 7 #[true, true, true, true, true, true, true, false, true, true, false, false, true, true, true, true, true, false, false, false, false] rfl (by exact Wlb) rfl rfl (by kernel_rfl) rfl (by kernel_rfl) (by kernel_rfl) (fun _ _ _ h => h) ?_
      refine GA.take 8 #[true, true, true, true, true, true, true, true, false, false, false, false, true, true, true, true, true, false, false, false, false] rfl (by exact Ev.fieldAddr rfl) rfl rfl (by kernel_rfl) rfl (by kernel_rfl) (by kernel_rfl) (fun _ _ _ h => h) ?_
      refine GA.read 9 #[true, true, true, true, true, true, true, true, true, false, false, false, true, true, true, true, true, false, false, false, false] rfl (by exact Wlb) rfl rfl (by kernel_rfl) rfl (by kernel_rfl) (by kernel_rfl) (fun _ _ _ h => h) ?_
      refine GA.read 10 #[true, true, true, true, true, true, true, true, true, true, false, false, true, true, true, true, true, false, false, false, false] rfl (by exact Wix) rfl rfl (by kernel_rfl) rfl (by kernel_rfl) (by kernel_rfl) (fun _ _ _ h => h) ?_
      refine GA.read 11 #[true, true, true, true, true, true, true, true, true, true, true, false, true, true, true, true, true, false, false, false, false] rfl (by exact Wle) rfl rfl (by kernel_rfl) rfl (by kernel_rfl) (by kernel_rfl) (fun _ _ _ h => h) ?_
      refine GA.take 12 #[true, true, true, true, true, true, true, true, true, true, true, true, false, false, true, false, false, false, false, false, false] rfl (by exact Ev.fieldAddr rfl) rfl rfl (by kernel_rfl) rfl (by kernel_rfl) (by kernel_rfl) (fun _ _ _ h => h) ?_
      refine GA.read 13 #[true, true, true, true, true, true, true, true, true, true, true, true, true, false, true, false, false, false, false, false, false] rfl (by exact Wlb) rfl rfl (by kernel_rfl) rfl (by kernel_rfl) (by kernel_rfl) (fun _ _ _ h => h) ?_
      refine GA.take 14 #[true, true, true, true, true, true, true, true, true, true, true, true, true, true, false, false, false, false, false, false, false] rfl (by exact Ev.move rfl) rfl rfl (by kernel_rfl) rfl (by kernel_rfl) (by kernel_rfl) (fun _ _ _ h => h) ?_
      refine GA.read 15 #[true, true, true, true, true, true, true, true, true, true, true, true, true, true, true, false, false, false, false, false, false] rfl (by exact Wix) rfl rfl (by kernel_rfl) rfl (by kernel_rfl) (by kernel_rfl) (fun _ _ _ h => h) ?_
      refine GA.read 16 #[true, true, true, true, true, true, true, true, true, true, true, true, true, true, true, true, false, false, false, false, false] rfl (by exact Wle) rfl rfl (by kernel_rfl) rfl (by kernel_rfl) (by kernel_rfl) (fun _ _ _ h => h) ?_
      refine GA.branch (rs := [2]) (JOk.live (by exact Wle) (JOk.live (by exact Wix) (JOk.live (by exact Wlb) (JOk.live (by exact Wle) (JOk.live (by exact Wix) (JOk.live (by exact Wlb) (JOk.live (by exact Wlb) (JOk.live (by exact Wlba) (JOk.live (by exact Wlb) JOk.nil))))))))) (by kernel_rfl) (by simp) ?_
      refine GAs.cons rfl ?_ ?_
      · -- fF op 2
        refine GL.call rfl rfl (copyReads_spec w0 _ B d ls (hH.imp Wim) hS) ?_
        rintro _ _ ⟨B36, ms36, hli36, rfl, rfl⟩
        refine GL.nil ?_
        refine GE.any ?_
        refine GA.take 4 #[true, true, true, true, false, true, true, true, true, true, true, true, true, true, true, true, true, true, false, false, false] rfl (by exact Ev.build rfl (by first | exact bdPart ⟨_, _, _, _, _⟩ | exact bdReader _ _ _ | exact bdPart4 _ _ _ _ | exact bdForm _ _ _ | exact bdForm0 | exact bdGraph0 | exact bdGraph _ _ _ | exact bdNode1 _ | exact bdNode2 _ _ _ _ | exact bdHist0 | exact bdHist1 _ _ _ | exact bdHist2 _ _ _ _)) rfl rfl (by kernel_rfl) rfl (by kernel_rfl) (by kernel_rfl) (fun _ _ _ h => h) ?_
        refine GA.branch (rs := [17]) (JOk.live (by exact Wle) (JOk.live (by exact Wix) (JOk.live (by exact Wlb) (JOk.live (by exact Wle) (JOk.live (by exact Wix) (JOk.live (by exact Wlb) (JOk.live (by exact Wlb) (JOk.live (by exact Wlba) (JOk.dead (by kernel_rfl) JOk.nil))))))))) (by kernel_rfl) (by simp) ?_
        refine GAs.cons rfl ?_ ?_
        · -- fF op 17
          refine GL.call rfl rfl (iChangedBy_spec w0 _ A c ms (by first | assumption | exact RdG.imp (by assumption) Wim | exact RdG.of_pick Wpk Wpk) _ _ ls[a.toNat].xs ((hH.lists a.toNat ha1).imp Wim) _ _ ls[(a + b).toNat].xs ((hH.lists (a + b).toNat ha2).imp Wim) hl (hS.2 _ ha1) (hS.2 _ ha2)) ?_
          rintro _ _ ⟨E, f, rfl, rfl⟩
          refine GL.nil ?_
          refine GE.any ?_
          refine GA.branch (rs := [18]) (JOk.dead (by kernel_rfl) (JOk.dead (by kernel_rfl) (JOk.dead (by kernel_rfl) (JOk.dead (by kernel_rfl) (JOk.dead (by kernel_rfl) (JOk.dead (by kernel_rfl) (JOk.dead (by kernel_rfl) (JOk.dead (by kernel_rfl) (JOk.dead (by kernel_rfl) JOk.nil))))))))) (by kernel_rfl) (by simp) ?_
          refine GAs.cons rfl ?_ ?_
          · -- fF op 18
            refine GL.store_varN rfl rfl rfl Wpk (by rfl) (by rfl) (by rfl) ?_
            refine GL.nil ?_
            refine GE.any ?_
            refine GA.take 19 #[true, true, true, true, true, true, true, true, true, true, true, true, true, true, true, true, true, true, true, false, false] rfl (by exact Ev.assign rfl) rfl rfl (by kernel_rfl) rfl (by kernel_rfl) (by kernel_rfl) (fun _ _ _ h => h) ?_
            refine GA.take 20 #[true, true, true, true, true, true, true, true, true, true, true, true, true, true, true, true, true, true, true, true, false] rfl (by exact Ev.assign rfl) rfl rfl (by kernel_rfl) rfl (by kernel_rfl) (by kernel_rfl) (fun _ _ _ h => h) ?_
            refine GA.done (JOk.dead (by kernel_rfl) (JOk.dead (by kernel_rfl) (JOk.dead (by kernel_rfl) (JOk.dead (by kernel_rfl) (JOk.dead (by kernel_rfl) (JOk.dead (by kernel_rfl) (JOk.dead (by kernel_rfl) (JOk.dead (by kernel_rfl) (JOk.dead (by kernel_rfl) JOk.nil))))))))) (by kernel_rfl) ?_
            refine GE.seq ?_
            refine GC.ret ?_
            -- returns, path fF
            skip
            refine GE.res3 (L' := row slE B36 ms36.length ms36 :: rowsA ms36 :: row intE E f (diffOfL (gr ms) ls[a.toNat].xs ls[(a + b).toNat].xs) :: L) (.inl rfl) rfl (Res1.cell rfl rfl (BlkRd.of_pick Wpk) (by rfl)) (Res1.tmp rfl) (Res1.tmp rfl) Wsb ?_
            rw [(mov_yes hm).1, (mov_yes hm).2.1, (mov_yes hm).2.2, hm, li_getD ha1, li_getD ha2]
            exact ⟨B36, _, ms36, E, f, hli36, rfl, rfl⟩
          exact GAs.nil
        exact GAs.nil
      exact GAs.nil
end SG
