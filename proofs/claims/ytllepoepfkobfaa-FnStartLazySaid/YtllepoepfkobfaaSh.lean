/- Short names for what the walks say again and again. -/
import Derived.Test.YtllepoepfkobfaaOp3
namespace SG
open Go Go.RowKit
set_option linter.unusedVariables false
theorem Wnt1 {b : Bool} (h : (!b) = true) : b = false := by cases b <;> simp_all
theorem Wnt2 {b : Bool} (h : (!b) = false) : b = true := by cases b <;> simp_all
theorem Wpk {a : Asn} {L L1 : List Asn} (h : Pick L a L1 := by (repeat (first | exact Pick.head | apply Pick.tail)); fail_if_success (focus skip)) : Pick L a L1 := h
theorem Wim {w0 : World} {L L' : List Asn} (h : Imp w0 L L' := by first | exact Imp.refl | exact Imp.nil | ((repeat (first | exact Imp.refl | refine Imp.cons ?_)); fail_if_success (focus skip))) : Imp w0 L L' := h
theorem Wom {p : Prop} (h : p := by first | omega | (simp; done) | (simp; omega)) : p := h
theorem Wsb {L L' : List Asn} (h : Sub L L' := by first | exact Sub.refl | exact Sub.nil | (repeat (first | exact Sub.refl | exact Sub.nil | (apply Sub.cons; exact Wpk) | refine Sub.drop ?_))) : Sub L L' := h
theorem Wkp {F F' : Env} (h : Keeps F F' := by repeat (first | exact Keeps.nil | refine Keeps.cons rfl ?_)) : Keeps F F' := h
theorem Wik {x : Int} {k : Nat} (h : x = k := by first | rfl | exact (Int.toNat_of_nonneg (by omega)).symm) : x = k := h
theorem Wrd {α : Type} {E : El α} {w0 : World} {L : List Asn} {A : Option Addr} {c : Nat} {xs : List α} (h : Rd w0 L E A c xs := by first | assumption | exact Rd.of_pick Wpk | exact Rd.imp (by assumption) Wim) : Rd w0 L E A c xs := h
section
variable {P : Program} {Q : Exit → Act → World → Prop} {w0 : World} {N : Nat} {fs : List Kf} {ops : Array Oper} {rest : List Oper} {F : Env} {L : List Asn}
theorem GL.v {q : Bool} {o : Oper} {v : Value} {d : Tmp} (hv : EvR P w0 N o F L v) (h : GL P Q w0 N q fs ops rest ((d, v) :: F) L) (ho : o.dst = some d := by rfl) (hd : Nat.blt d N = true := by rfl) : GL P Q w0 N q fs ops (o :: rest) F L := GL.val hv ho hd h
theorem Wlb {o : Oper} {v : Value} (h : EvR P w0 N o F L v := by first | exact Ev.load_blk rfl rfl (BlkRd.of_pick Wpk) Imp.refl (by rfl) | exact Ev.load_blk rfl rfl (by assumption) Wim (by rfl)) : EvR P w0 N o F L v := h
theorem Wlba {o : Oper} {v : Value} (h : EvR P w0 N o F L v := by first | exact Ev.load_blk_all rfl rfl (BlkRd.of_pick Wpk) Imp.refl (by rfl) | exact Ev.load_blk_all rfl rfl (by assumption) Wim (by rfl)) : EvR P w0 N o F L v := h
theorem Wlb1 {o : Oper} {v : Value} (h : EvR P w0 N o F L v := by first | exact Ev.load_blk1 rfl rfl (BlkRd.of_pick Wpk) Imp.refl (by rfl) | exact Ev.load_blk1 rfl rfl (by assumption) Wim (by rfl)) : EvR P w0 N o F L v := h
theorem Wle {o : Oper} {v : Value} (h : EvR P w0 N o F L v := by first | exact Ev.load_el rfl (by assumption) Wim rfl rfl rfl (List.getElem?_eq_getElem Wom) | exact Ev.load_el rfl (Rd.of_pick Wpk) Imp.refl rfl rfl rfl (List.getElem?_eq_getElem Wom)) : EvR P w0 N o F L v := h
theorem Wlef {o : Oper} {v : Value} (h : EvR P w0 N o F L v := by first | exact Ev.load_el_cell rfl (by assumption) Wim (List.getElem?_eq_getElem Wom) rfl | exact Ev.load_el_cell rfl (Rd.of_pick Wpk) Imp.refl (List.getElem?_eq_getElem Wom) rfl) : EvR P w0 N o F L v := h
theorem Wlef1 {o : Oper} {v : Value} (h : EvR P w0 N o F L v := by first | exact Ev.load_el_cell1 rfl (by assumption) Wim (List.getElem?_eq_getElem Wom) rfl | exact Ev.load_el_cell1 rfl (Rd.of_pick Wpk) Imp.refl (List.getElem?_eq_getElem Wom) rfl) : EvR P w0 N o F L v := h
theorem Wix {o : Oper} {v : Value} (h : EvR P w0 N o F L v := by first | exact Ev.index rfl rfl (by assumption) Wim Wik (by first | omega | (show 0 < _; omega) | (simp; omega)) (by first | exact Nat.le_refl _ | (simp; done) | omega | (simp; omega)) | exact Ev.index rfl rfl (Rd.of_pick Wpk) Imp.refl Wik (by first | omega | (show 0 < _; omega) | (simp; omega)) (by first | exact Nat.le_refl _ | (simp; done) | omega | (simp; omega))) : EvR P w0 N o F L v := h
theorem Wmv {o : Oper} {v : Value} (h : EvR P w0 N o F L v := by exact EvP.r (Ev.move rfl)) : EvR P w0 N o F L v := h
theorem Wag {o : Oper} {v : Value} (h : EvR P w0 N o F L v := by exact EvP.r (Ev.assign rfl)) : EvR P w0 N o F L v := h
theorem Wnc {o : Oper} {v : Value} (h : EvR P w0 N o F L v := by exact EvP.r (Ev.nilCheck rfl)) : EvR P w0 N o F L v := h
theorem Wfa {o : Oper} {v : Value} (h : EvR P w0 N o F L v := by exact EvP.r (Ev.fieldAddr rfl)) : EvR P w0 N o F L v := h
theorem Wpt {o : Oper} {v : Value} (h : EvR P w0 N o F L v := by exact EvP.r (Ev.pick_true rfl rfl)) : EvR P w0 N o F L v := h
theorem Wpf {o : Oper} {v : Value} (h : EvR P w0 N o F L v := by exact EvP.r (Ev.pick_false rfl rfl)) : EvR P w0 N o F L v := h
theorem Wnt {o : Oper} {v : Value} (h : EvR P w0 N o F L v := by exact EvP.r (Ev.not rfl)) : EvR P w0 N o F L v := h
theorem Wxt {o : Oper} {v : Value} (h : EvR P w0 N o F L v := by exact EvP.r (Ev.extract rfl rfl)) : EvR P w0 N o F L v := h
theorem Wln {o : Oper} {v : Value} (h : EvR P w0 N o F L v := by exact EvP.r (Ev.len rfl)) : EvR P w0 N o F L v := h
theorem Wls {o : Oper} {v : Value} (h : EvR P w0 N o F L v := by exact EvP.r (Ev.lss rfl rfl)) : EvR P w0 N o F L v := h
theorem Wlq {o : Oper} {v : Value} (h : EvR P w0 N o F L v := by exact EvP.r (Ev.leq rfl rfl)) : EvR P w0 N o F L v := h
theorem Wgt {o : Oper} {v : Value} (h : EvR P w0 N o F L v := by exact EvP.r (Ev.gtr rfl rfl)) : EvR P w0 N o F L v := h
theorem Wgq {o : Oper} {v : Value} (h : EvR P w0 N o F L v := by exact EvP.r (Ev.geq rfl rfl)) : EvR P w0 N o F L v := h
theorem Weq {o : Oper} {v : Value} (h : EvR P w0 N o F L v := by exact EvP.r (Ev.eql rfl rfl)) : EvR P w0 N o F L v := h
theorem Wnq {o : Oper} {v : Value} (h : EvR P w0 N o F L v := by exact EvP.r (Ev.neq rfl rfl)) : EvR P w0 N o F L v := h
theorem Wad {o : Oper} {v : Value} (h : EvR P w0 N o F L v := by exact EvP.r (Ev.add rfl rfl (by omega))) : EvR P w0 N o F L v := h
theorem Wsu {o : Oper} {v : Value} (h : EvR P w0 N o F L v := by exact EvP.r (Ev.sub rfl rfl (by omega))) : EvR P w0 N o F L v := h
/-- what a guard decides -/
theorem GL.gs {qq : Bool} {dst : Option Tmp} {op : Op} {ty : TypeId} {pos : String} {after : Array Edge} {j : Nat} {want : Bool} {d : Tmp} {b : Bool} {p q : Prop}
    (ht : p → GL P Q w0 N qq fs ops (⟨dst, op, ty, pos, after, some (j, want)⟩ :: rest) ((d, .bool true) :: F) L) (hf : q → GL P Q w0 N qq fs ops (⟨dst, op, ty, pos, after, some (j, want)⟩ :: rest) ((d, .bool false) :: F) L)
    (hj : (ops[j]?).bind (·.dst) = some d := by rfl) (hl : look F d = some (.bool b) := by rfl) (hp : (b = true → p) ∧ (b = false → q) := by first | exact ⟨of_decide_eq_true, of_decide_eq_false⟩ | exact ⟨fun h => of_decide_eq_false (Wnt1 h), fun h => of_decide_eq_true (Wnt2 h)⟩ | exact ⟨Wnt1, Wnt2⟩ | exact ⟨id, id⟩) : GL P Q w0 N qq fs ops (⟨dst, op, ty, pos, after, some (j, want)⟩ :: rest) F L := GL.split hl (fun h => ht (hp.1 h)) (fun h => hf (hp.2 h))
/-- what a pick decides -/
theorem GL.ps {qq : Bool} {l : List Oper} {b : Bool} {p q : Prop} (d : Tmp) (ht : p → GL P Q w0 N qq fs ops l ((d, .bool true) :: F) L) (hf : q → GL P Q w0 N qq fs ops l ((d, .bool false) :: F) L)
    (hl : look F d = some (.bool b) := by rfl) (hp : (b = true → p) ∧ (b = false → q) := by first | exact ⟨of_decide_eq_true, of_decide_eq_false⟩ | exact ⟨fun h => of_decide_eq_false (Wnt1 h), fun h => of_decide_eq_true (Wnt2 h)⟩ | exact ⟨Wnt1, Wnt2⟩ | exact ⟨id, id⟩) : GL P Q w0 N qq fs ops l F L := GL.split hl (fun h => ht (hp.1 h)) (fun h => hf (hp.2 h))
/-- what a branch decides -/
theorem GC.ifs {d : Tmp} {x y : Code} {p q : Prop} {b : Bool} (ht : p → GC P Q w0 N fs x ((d, .bool true) :: F) L) (hf : q → GC P Q w0 N fs y ((d, .bool false) :: F) L) (hc : look F d = some (.bool b) := by rfl)
    (hp : (b = true → p) ∧ (b = false → q) := by first | exact ⟨of_decide_eq_true, of_decide_eq_false⟩ | exact ⟨fun h => of_decide_eq_false (Wnt1 h), fun h => of_decide_eq_true (Wnt2 h)⟩ | exact ⟨Wnt1, Wnt2⟩ | exact ⟨id, id⟩) : GC P Q w0 N fs (.cond (.tmp d) x y) F L :=
  GC.if_bool hc (fun h => ht (hp.1 h)) (fun h => hf (hp.2 h))
end
end SG
