/- Contracts: new, committed and moved histories. -/
import Derived.Test.YtllepoepfkobfaaD28
namespace SG
open Go Go.RowKit Go.Proofs
set_option linter.unusedVariables false
set_option linter.unusedSimpArgs false
set_option maxRecDepth 100000
noncomputable def newL (gs : List Nd) (xs : List Int) : List (List Int) := if cellsV gs xs = true then [xs] else []
theorem newL_no {gs : List Nd} {xs : List Int} (h : cellsV gs xs = false) : newL gs xs = [] := by simp [newL, h]
theorem newL_yes {gs : List Nd} {xs : List Int} (h : cellsV gs xs = true) : newL gs xs = [xs] := by simp [newL, h]
noncomputable def comB (gs : List Nd) (xss : List (List Int)) (a : Int) (xs : List Int) : Bool := hisB gs xss a && cellsV gs xs && decide (a + 2 ≤ 10)
noncomputable def comL (gs : List Nd) (xss : List (List Int)) (a : Int) (xs : List Int) : List (List Int) := if comB gs xss a xs = true then xss.take (a.toNat + 1) ++ [xs] else []
noncomputable def comA (gs : List Nd) (xss : List (List Int)) (a : Int) (xs : List Int) : Int := if comB gs xss a xs = true then a + 1 else 0
theorem comB_no1 {gs : List Nd} {xss : List (List Int)} {a : Int} {xs : List Int} (h : hisB gs xss a = false) : comB gs xss a xs = false := by simp [comB, h]
theorem comB_no2 {gs : List Nd} {xss : List (List Int)} {a : Int} {xs : List Int} (h : cellsV gs xs = false) : comB gs xss a xs = false := by simp [comB, h]
theorem comB_no3 {gs : List Nd} {xss : List (List Int)} {a : Int} {xs : List Int} (h : ¬ a + 2 ≤ 10) : comB gs xss a xs = false := by simp [comB, h]
theorem comB_yes {gs : List Nd} {xss : List (List Int)} {a : Int} {xs : List Int} (h : hisB gs xss a = true) (h2 : cellsV gs xs = true) (h3 : a + 2 ≤ 10) : comB gs xss a xs = true := by simp [comB, h, h2, h3]
theorem comL_no {gs : List Nd} {xss : List (List Int)} {a : Int} {xs : List Int} (h : comB gs xss a xs = false) : comL gs xss a xs = [] ∧ comA gs xss a xs = 0 := by simp [comL, comA, h]
theorem comL_yes {gs : List Nd} {xss : List (List Int)} {a : Int} {xs : List Int} (h : comB gs xss a xs = true) : comL gs xss a xs = xss.take (a.toNat + 1) ++ [xs] ∧ comA gs xss a xs = a + 1 := by simp [comL, comA, h]
theorem li_take (ls : List LiM) (k : Nat) : li (ls.take k) = (li ls).take k := by simp [li, List.map_take]
theorem SizeLs.take {ls : List LiM} (h : SizeLs ls) (k : Nat) : SizeLs (ls.take k) := ⟨by rw [List.length_take]; have := h.1; omega, fun i hi => by
  have hl : i < ls.length := by rw [List.length_take] at hi; omega
  rw [List.getElem_take]; exact h.2 i hl⟩
theorem St.none_lists {w0 w : World} {L : List Asn} (h : St w0 w L) : St w0 w (row slE none 0 [] :: rowsA [] :: L) := St.empty slE none (show St w0 w (rowsA [] :: L) from h.sat0)
theorem St.rows0 {w0 w : World} {L : List Asn} (h : St w0 w L) : St w0 w (rowsA [] :: L) := h.sat0
theorem Ev.neg {P : Program} {N : Nat} {dst : Option Tmp} {x : Operand} {ty t : TypeId} {pos : String} {after : Array Edge} {F : Env} {m : Int} (hx : ev F x = some (.int .i64 m)) (hr : -9223372036854775808 ≤ -m ∧ -m ≤ 9223372036854775807) : EvP P N ⟨dst, .unOp .neg t x, ty, pos, after, none⟩ F (.int .i64 (-m)) := ⟨rfl, fun a w hf => by simp [execOp, hf.ev hx, Op.unary, Op.intArith, IntWalk.i64_in _ hr]⟩
theorem GE.row_clip {P : Program} {Q : Exit → Act → World → Prop} {w0 : World} {N : Nat} {fs : List Kf} {F : Env} {e : Exit} {α : Type} {E : El α} {A : Option Addr} {c : Nat} {xs : List α} {L L1 : List Asn} (p : Pick L (row E A c xs) L1) (hc : xs.length ≤ c) (h : GE P Q w0 N fs e F (row E A xs.length xs :: L1)) : GE P Q w0 N fs e F L :=
  GE.state (fun _ hs => (hs.pick p).conv fun _ hk => row.clip hk xs.length (Nat.le_refl _) hc) h
theorem sub_app {L : List Asn} : ∀ X : List Asn, Sub (X ++ L) L
  | [] => .refl
  | _ :: X => (sub_app X).drop
theorem St.rows_take {w0 w : World} {L L1 : List Asn} {ms : List LiM} (k : Nat) (q : Pick L (rowsA ms) L1) (hs : St w0 w L) : St w0 w (rowsA (ms.take k) :: L1) := by
  have h1 := (hs.pick q).flat
  have e : ms.map LiM.rowA ++ L1 = (ms.take k).map LiM.rowA ++ ((ms.drop k).map LiM.rowA ++ L1) := by rw [← List.append_assoc, ← List.map_append, List.take_append_drop]
  rw [e] at h1
  exact (St.fold h1).sub (Sub.cons .head (sub_app _))
/-- a history that moves -/
noncomputable def movB (gs : List Nd) (xss : List (List Int)) (a b : Int) : Bool := hisB gs xss a && inB b (-a) ((xss.length : Int) - 1 - a)
noncomputable def movS (gs : List Nd) (xss : List (List Int)) (a b : Int) : List (List Int) := if movB gs xss a b = true then xss else []
noncomputable def movA (gs : List Nd) (xss : List (List Int)) (a b : Int) : Int := if movB gs xss a b = true then a + b else 0
noncomputable def movL (gs : List Nd) (xss : List (List Int)) (a b : Int) : List Int := if movB gs xss a b = true then diffOfL gs (xss.getD a.toNat []) (xss.getD (a + b).toNat []) else []
theorem mov_no {gs : List Nd} {xss : List (List Int)} {a b : Int} (h : movB gs xss a b = false) : movS gs xss a b = [] ∧ movA gs xss a b = 0 ∧ movL gs xss a b = [] := by simp [movS, movA, movL, h]
theorem mov_yes {gs : List Nd} {xss : List (List Int)} {a b : Int} (h : movB gs xss a b = true) : movS gs xss a b = xss ∧ movA gs xss a b = a + b ∧ movL gs xss a b = diffOfL gs (xss.getD a.toNat []) (xss.getD (a + b).toNat []) := by simp [movS, movA, movL, h]
theorem SizeLs.of_li {ls : List LiM} {xss : List (List Int)} (h : SG.li ls = xss) (hl : xss.length ≤ 1100000) (h' : ∀ xs ∈ xss, xs.length ≤ 1100000) : SizeLs ls := by
  subst h
  exact ⟨by simpa using hl, fun i hi => h' _ (List.mem_map.2 ⟨_, List.getElem_mem hi, rfl⟩)⟩
theorem SizeLs.mem {ls : List LiM} (h : SizeLs ls) : ∀ xs ∈ SG.li ls, xs.length ≤ 1100000 := fun xs hx => by
  obtain ⟨l, hl, rfl⟩ := List.mem_map.1 hx
  obtain ⟨i, hi, rfl⟩ := List.mem_iff_getElem.1 hl
  exact h.2 i hi
theorem SizeLs.new {ls : List LiM} {gs : List Nd} {xs : List Int} (h : SG.li ls = newL gs xs) (hx : xs.length ≤ 1100000) : SizeLs ls := by
  refine SizeLs.of_li h ?_ ?_ <;> unfold newL <;> split
  · simp
  · simp
  · intro ys hy; rw [List.mem_singleton.1 hy]; exact hx
  · intro ys hy; simp at hy
theorem SizeLs.com {ls ns : List LiM} {gs : List Nd} {a : Int} {xs : List Int} (h : SG.li ns = comL gs (SG.li ls) a xs) (hS : SizeLs ls) (hx : xs.length ≤ 1100000) : SizeLs ns := by
  have hb : comB gs (SG.li ls) a xs = true → ls.length ≤ 10 := fun hb => by
    unfold comB at hb
    rw [Bool.and_eq_true, Bool.and_eq_true] at hb
    have := (hisB_iff.1 hb.1.1).2.1.2
    simpa using this
  refine SizeLs.of_li h ?_ ?_ <;> unfold comL <;> split
  · rename_i hc
    have := hb hc
    rw [List.length_append, List.length_take, li_length]; simp; omega
  · simp
  · intro ys hy
    rcases List.mem_append.1 hy with hy | hy
    · exact hS.mem ys (List.mem_of_mem_take hy)
    · rw [List.mem_singleton.1 hy]; exact hx
  · intro ys hy; simp at hy
theorem SizeLs.mov {ls ns : List LiM} {gs : List Nd} {a b : Int} (h : SG.li ns = movS gs (SG.li ls) a b) (hS : SizeLs ls) : SizeLs ns := by
  refine SizeLs.of_li h ?_ ?_ <;> unfold movS <;> split
  · have := hS.1; simpa using this
  · simp
  · exact hS.mem
  · intro ys hy; simp at hy
theorem comB_iff {gs : List Nd} {xss : List (List Int)} {a : Int} {xs : List Int} : comB gs xss a xs = true ↔ hisB gs xss a = true ∧ cellsV gs xs = true ∧ a + 2 ≤ 10 := by
  unfold comB
  rw [Bool.and_eq_true, Bool.and_eq_true, decide_eq_true_eq, and_assoc]
theorem com_his {gs : List Nd} {xss : List (List Int)} {a : Int} {xs : List Int} (h : comB gs xss a xs = true) : hisB gs (comL gs xss a xs) (a + 1) = true ∧ (comL gs xss a xs).length = a.toNat + 2 := by
  obtain ⟨h1, h2, h3⟩ := comB_iff.1 h
  obtain ⟨hv, hl, ha, hall⟩ := hisB_iff.1 h1
  have e : (comL gs xss a xs).length = a.toNat + 2 := by
    rw [(comL_yes h).1, List.length_append, List.length_take]; simp; omega
  refine ⟨hisB_iff.2 ⟨hv, by omega, by omega, fun ys hy => ?_⟩, e⟩
  rw [(comL_yes h).1] at hy
  rcases List.mem_append.1 hy with hy | hy
  · exact hall ys (List.mem_of_mem_take hy)
  · rw [List.mem_singleton.1 hy]; exact h2
theorem com_last {gs : List Nd} {xss : List (List Int)} {a : Int} {xs : List Int} (h : comB gs xss a xs = true) : (comL gs xss a xs).getD (a + 1).toNat [] = xs ∧ (comL gs xss a xs).getD a.toNat [] = xss.getD a.toNat [] := by
  obtain ⟨h1, h2, h3⟩ := comB_iff.1 h
  obtain ⟨hv, hl, ha, hall⟩ := hisB_iff.1 h1
  rw [(comL_yes h).1]
  constructor
  · rw [List.getD_eq_getElem?_getD, List.getElem?_append_right (by rw [List.length_take]; omega), List.length_take, show (a + 1).toNat - min (a.toNat + 1) xss.length = 0 by omega]; rfl
  · rw [List.getD_eq_getElem?_getD, List.getD_eq_getElem?_getD, List.getElem?_append_left (by rw [List.length_take]; omega), List.getElem?_take, if_pos (by omega)]
theorem Tr.len1 {P : Program} {f : FuncId} {B : Option Addr} {n m d : Nat} {w0 : World} {L : List Asn} {R : Value → List Asn → Prop} (h : n = m) (hT : Tr P f #[.slice B m d] w0 L R) : Tr P f #[.slice B n d] w0 L R := by rw [h]; exact hT
theorem li_getD {ls : List LiM} {i : Nat} (h : i < ls.length) : (li ls).getD i [] = ls[i].xs := by
  rw [List.getD_eq_getElem?_getD, List.getElem?_eq_getElem (by simpa using h), Option.getD_some, li_get]
end SG
