/- Arguments that came in, read; the closing of a law. -/
import Derived.Test.YtllepoepfkobfaaDA
import Derived.Test.YtllepoepfkobfaaChecked
import Derived.WalkKit
import Derived.ProofKit
import Derived.OpenShut
import Derived.JoinedCond
import Derived.Below
import Derived.ReadAgain
import Derived.Deep.Slices
namespace SG
open Go Go.RowKit Go.Proofs Go.ChangeShapes Go.WideShapes Go.Deep
set_option maxRecDepth 100000
set_option linter.unusedVariables false
set_option linter.unusedSimpArgs false

/-- a graph of the laws' own types is read -/
structure RdL (w0 : World) (L : List Asn) (A : Option Addr) (c : Nat) (ms : List NdM) : Prop where
  nodes : Rd w0 L lnodeE A c ms
  parts : ∀ i (h : i < ms.length), Rd w0 L lpartE ms[i].a ms[i].c ms[i].parts
theorem RdL.imp {w0 : World} {L L' : List Asn} {A : Option Addr} {c : Nat} {ms : List NdM} (h : RdL w0 L' A c ms) (hi : Imp w0 L L') : RdL w0 L A c ms := ⟨h.nodes.imp hi, fun i hl => (h.parts i hl).imp hi⟩
section
variable {P : Program} {W : World} {H : Type} {enc : TypeId × Value → H}

/-- the type and the place of a field -/
def fieldAt (P : Program) (t : TypeId) (i : Nat) : Option (TypeId × Nat) := match P.underlying t with
  | some (.struct fs) => fs[i]?.map fun f => (f.type, f.offset)
  | _ => none
theorem trod_field {t ty : TypeId} {i off n : Nat} {cs : List Value} {x : DataW H × List MemPlace} (hf : fieldAt P t i = some (ty, off)) (h : DataW.trod enc P W 0 (fun _ => true) true n t cs = some x) :
    cs.length = P.cellsOf t ∧ ∃ m y, DataW.trod enc P W 0 (fun _ => true) true m ty ((cs.drop off).take (P.cellsOf ty)) = some y := by
  unfold fieldAt at hf
  split at hf
  · rename_i fs hu
    obtain ⟨xs, m, rfl, rfl, hl, hn, hx⟩ := DataW.trod_struct hu h
    cases hfi : fs[i]? with
    | none => rw [hfi] at hf; cases hf
    | some f =>
      rw [hfi] at hf
      simp only [Option.map_some, Option.some.injEq, Prod.mk.injEq] at hf
      obtain ⟨rfl, rfl⟩ := hf
      have hi : i < fs.size := (Array.getElem?_eq_some_iff.1 hfi).1
      have := hx i f hfi
      rw [List.getElem?_eq_getElem (by omega)] at this
      exact ⟨hl, m, _, this⟩
  · cases hf
/-- what reads at an element's type are an element's cells, with more -/
def Opens (P : Program) (W : World) {α : Type} (E : El α) (good : α → Prop) : Prop :=
  ∀ (H : Type) (enc : TypeId × Value → H) (n : Nat) (cs : List Value) (x : DataW H × List MemPlace), DataW.trod enc P W 0 (fun _ => true) true n E.ty cs = some x → ∃ a, E.enc a = cs ∧ good a
theorem rd_of_world {α : Type} {E : El α} {A : Option Addr} {c : Nat} {xs : List α} (h : RdW W E A c xs) : Rd W [] E A c xs := ⟨fun w hs => by
  refine ⟨h.1, h.2.1, fun k x hk => ?_⟩
  obtain ⟨ad, hA, hc⟩ := h.2.2 k x hk
  refine ⟨ad, hA, fun j u hu => ?_⟩
  have h1 := hc j u hu
  have hlt : (ad.add (k * E.size + j)).block < W.heap.size := by simpa using World.block_lt_of_cell? W _ h1
  rw [hs.below.cell hlt]; exact h1⟩
theorem open_sl {α : Type} {E : El α} {st : TypeId} {bytes : Nat} {z : α} {good : α → Prop} [hE : SlOk P st E bytes z] (hc : P.cellsOf E.ty = E.size) (hO : Opens P W E good) {n : Nat} {cs : List Value} {x : DataW H × List MemPlace}
    (h : DataW.trod enc P W 0 (fun _ => true) true n st cs = some x) : ∃ (A : Option Addr) (c : Nat) (xs : List α), cs = [.slice A xs.length c] ∧ Rd W [] E A c xs ∧ ∀ x ∈ xs, good x := by
  rcases open_slice hE.und h with ⟨rfl, _⟩ | ⟨a, len, cap, m, n', D, Pl, rfl, _, hl, hm, rfl, _, hx⟩
  · exact ⟨none, 0, [], rfl, rd_of_world ⟨Nat.le_refl _, by simp [maxLen], fun k x hk => by simp at hk⟩, by simp⟩
  · have key : ∀ i, i < m → ∃ v, good v ∧ ∀ j u, (E.enc v)[j]? = some u → W.cell? (a.add (i * E.size + j)) = some u := by
      intro i hi
      obtain ⟨cs', h1, h2⟩ := hx i hi
      obtain ⟨v, hv, hg⟩ := hO _ _ _ _ _ h2
      refine ⟨v, hg, fun j u hu => ?_⟩
      obtain ⟨_, hlen, hcell⟩ := World.cells?_some h1
      rw [hv] at hu
      have hj : j < cs'.length := (List.getElem?_eq_some_iff.1 hu).1
      have := hcell j (by omega)
      rw [add_add, hc] at this
      rw [this]; exact hu
    haveI : Inhabited α := ⟨z⟩
    obtain ⟨f, hf⟩ := choose_lt (n := m) key
    have hfl : ((List.range len).map f).length = len := by simp
    refine ⟨some a, m, (List.range len).map f, by rw [hfl], rd_of_world ⟨by omega, hm, fun k x hk => ?_⟩, fun x hx => ?_⟩
    · rw [List.getElem?_map] at hk
      cases hr : (List.range len)[k]? with
      | none => rw [hr] at hk; cases hk
      | some k' =>
        rw [hr] at hk
        have hkl : k < len := by simpa using (List.getElem?_eq_some_iff.1 hr).1
        rw [List.getElem?_range hkl] at hr
        injection hr with hr
        subst hr
        injection hk with hk
        subst hk
        exact ⟨a, rfl, (hf k (by omega)).2⟩
    · obtain ⟨i, hi, rfl⟩ := List.mem_map.1 hx
      rw [List.mem_range] at hi
      exact (hf i (by omega)).1
theorem opens_int {E : El Int} {k : IntKind} (hu : P.underlying E.ty = some (.int k)) (he : ∀ n, E.enc n = [.int k n]) : Opens P W E (fun n => (Lit.int k n).wf = true) := fun H enc n cs x h => by
  obtain ⟨m, rfl, _, hw⟩ := DataW.trod_int hu h
  exact ⟨m, he m, hw⟩
theorem trod_int1 {t : TypeId} {k : IntKind} {n : Nat} {cs : List Value} {x : DataW H × List MemPlace} (hu : P.underlying t = some (.int k)) (h : DataW.trod enc P W 0 (fun _ => true) true n t cs = some x) : ∃ m, cs = [.int k m] ∧ (Lit.int k m).wf = true := by
  obtain ⟨m, e, _, hw⟩ := DataW.trod_int hu h
  exact ⟨m, e, hw⟩
/-- the argument's slice -/
theorem arg_sl {α : Type} {E : El α} {st : TypeId} {bytes base : Nat} {z : α} {good : α → Prop} {v : Value} {d : DataW H} {p : List MemPlace} [hE : SlOk P st E bytes z] (hc : P.cellsOf E.ty = E.size) (hO : Opens P W E good)
    (hval : Value.okWide P W .any base st v) (h : DataW.Trod enc P W 0 (fun _ => true) true st v d p) : ∃ (A : Option Addr) (c : Nat) (xs : List α), v = .slice A xs.length c ∧ Rd W [] E A c xs ∧ ∀ x ∈ xs, good x := by
  obtain ⟨A, l, c, rfl⟩ := okWide_slice hE.und hval
  obtain ⟨n, hn⟩ := h
  obtain ⟨A', c', xs, e, hR, hg⟩ := open_sl hc hO hn
  simp [Value.cells] at e
  obtain ⟨rfl, rfl, rfl⟩ := e
  exact ⟨_, _, xs, rfl, hR, hg⟩
theorem arg_int {t : TypeId} {k : IntKind} {base : Nat} {v : Value} {d : DataW H} {p : List MemPlace} (hu : P.underlying t = some (.int k)) (hval : Value.okWide P W .any base t v) (h : DataW.Trod enc P W 0 (fun _ => true) true t v d p) :
    ∃ n, v = .int k n ∧ (Lit.int k n).wf = true := by
  obtain ⟨n, e, _, _, hw⟩ := open_int hu hval h
  exact ⟨n, e, hw⟩
theorem arg_agg {t : TypeId} {fs : Array Field} {base : Nat} {v : Value} {d : DataW H} {p : List MemPlace} (hu : P.underlying t = some (.struct fs)) (hval : Value.okWide P W .any base t v) (h : DataW.Trod enc P W 0 (fun _ => true) true t v d p) :
    ∃ cs n x, v = .agg cs ∧ DataW.trod enc P W 0 (fun _ => true) true n t cs.toList = some x := by
  obtain ⟨cs, rfl, _⟩ := okWide_struct hu hval
  obtain ⟨n, hn⟩ := h
  exact ⟨cs, n, _, rfl, by simpa [Value.cells] using hn⟩
theorem is_struct {t : TypeId} {i : Nat} {r : TypeId × Nat} (h : fieldAt P t i = some r) : ∃ fs, P.underlying t = some (.struct fs) := by
  unfold fieldAt at h
  split at h
  · exact ⟨_, by assumption⟩
  · cases h

/-! ## the closing -/
theorem trodAll_len {w : World} {base : Nat} {sp : Nat → Bool} {hd : Bool} : ∀ {ts : List TypeId} {vs : List Value} {ds : List (DataW H)} {ps : List MemPlace}, DataW.TrodAll enc P w base sp hd ts vs ds ps → ds.length = ts.length
  | [], [], [], _, _ => rfl
  | _ :: _, _ :: _, _ :: _, _, ⟨_, _, _, h2, _⟩ => congrArg (· + 1) (trodAll_len h2)
theorem trodAll_carry {w w' : World} {base : Nat} {sp : Nat → Bool} {hd : Bool} : ∀ {ts : List TypeId} {vs : List Value} {ds : List (DataW H)} {ps : List MemPlace}, DataW.TrodAll enc P w base sp hd ts vs ds ps → (∀ p ∈ ps, w.sameAt w' p) → DataW.TrodAll enc P w' base sp hd ts vs ds ps
  | [], [], [], _, h, _ => h
  | _ :: _, _ :: _, _ :: _, _, ⟨p, q, ⟨n, h1⟩, h2, e⟩, hs => ⟨p, q, ⟨n, DataW.trod_carry _ _ _ _ h1 (fun x hx => hs x (by rw [e]; exact List.mem_append_left _ hx))⟩, trodAll_carry h2 (fun x hx => hs x (by rw [e]; exact List.mem_append_right _ hx)), e⟩
theorem sameAt_of_below {w w' : World} {B : Nat} (hb : Below B w w') {p : MemPlace} (hp : p.block < B) : w.sameAt w' p := by
  cases p with
  | cell b off => exact hb.cell (p := ⟨b, off, none⟩) hp
  | map b => exact hb.block b hp
theorem law_post {f : Func} {s : ChangeSpec} {W W' : World} {args : Array Value} {v : Value} {ds gs : List (DataW H)} {before : List MemPlace}
    (K : Kids P (· < P.types.size)) (hz : ∀ t e, t < P.types.size → P.underlying t = some (.slice e) → 0 < P.cellsOf e) (hts : ∀ t ∈ f.params.toList, t < P.types.size)
    (hW : DataW.Whole enc P f.params.toList s.vars false W args.toList ds gs before) (hv : s.vars = [])
    (hres : gs = [] → DataW.TrodAll enc P W' W.heap.size (fun _ => false) false f.resultTypes.toList (v.resultList f.resultTypes.size) (s.fn H (ds ++ gs)).results [])
    (hargs : gs = [] → (s.fn H (ds ++ gs)).args = ds) (hvars : gs = [] → (s.fn H (ds ++ gs)).vars = []) (hb : Below W.heap.size W W') : s.post enc P f false true false false W args v W' := by
  have hlt : ∀ p ∈ before, p.block < W.heap.size := fun p hp => hW.lt p hp
  have hW' := hW
  obtain ⟨p, q, hA, hV, rfl, _, _⟩ := hW
  rw [hv] at hV
  obtain ⟨rfl, rfl⟩ := trodVars_none hV
  have hold : ∀ x ∈ p, (fun b => decide (b < W.heap.size)) x.block = true := fun x hx => by simpa using hlt x (by simpa using hx)
  refine ⟨ds, [], p ++ [], [], p, [], hW', hres rfl, ?_, ?_, World.keptBut_mono (fun x hx => ⟨hx, ?_⟩) (hb.frame (· ∈ p ++ [])), fun h => by cases h⟩
  · rw [hargs rfl]
    exact trodAll_carry (DataW.TrodAll.respare K hz hts hA hold) (fun x hx => sameAt_of_below hb (hlt x (by simpa using hx)))
  · rw [hv, hvars rfl]; rfl
  · exact .inr (.inl (by simpa using hx))
end
theorem opens_lpart (W : World) : Opens Try.prog W lpartE (fun _ => True) := fun H enc n cs x h => by
  obtain ⟨hl, m0, y0, h0⟩ := trod_field (t := 164) (i := 0) (off := 0) (ty := 3) (by kernel_rfl) h
  obtain ⟨_, m1, y1, h1⟩ := trod_field (t := 164) (i := 1) (off := 1) (ty := 3) (by kernel_rfl) h
  obtain ⟨_, m2, y2, h2⟩ := trod_field (t := 164) (i := 2) (off := 2) (ty := 3) (by kernel_rfl) h
  obtain ⟨_, m3, y3, h3⟩ := trod_field (t := 164) (i := 3) (off := 3) (ty := 3) (by kernel_rfl) h
  obtain ⟨_, m4, y4, h4⟩ := trod_field (t := 164) (i := 4) (off := 4) (ty := 3) (by kernel_rfl) h
  have c1 : Try.prog.cellsOf 3 = 1 := by kernel_rfl
  have c5 : Try.prog.cellsOf 164 = 5 := by kernel_rfl
  rw [c1] at h0 h1 h2 h3 h4
  rw [c5] at hl
  match cs, hl with
  | [a0, a1, a2, a3, a4], _ =>
    obtain ⟨n0, e0, _⟩ := trod_int1 (k := .i64) (by kernel_rfl) h0
    obtain ⟨n1, e1, _⟩ := trod_int1 (k := .i64) (by kernel_rfl) h1
    obtain ⟨n2, e2, _⟩ := trod_int1 (k := .i64) (by kernel_rfl) h2
    obtain ⟨n3, e3, _⟩ := trod_int1 (k := .i64) (by kernel_rfl) h3
    obtain ⟨n4, e4, _⟩ := trod_int1 (k := .i64) (by kernel_rfl) h4
    simp at e0 e1 e2 e3 e4
    subst e0 e1 e2 e3 e4
    exact ⟨⟨n0, n1, n2, n3, n4⟩, rfl, trivial⟩
theorem trod_formula {W : World} {H : Type} {enc : TypeId × Value → H} {n : Nat} {cs : List Value} {x : DataW H × List MemPlace} (h : DataW.trod enc Try.prog W 0 (fun _ => true) true n 113 cs = some x) : ∃ A c ps, cs = [.slice A ps.length c] ∧ Rd W [] lpartE A c ps := by
  obtain ⟨hl, m0, y0, h0⟩ := trod_field (t := 113) (i := 0) (off := 0) (ty := 111) (by kernel_rfl) h
  rw [show Try.prog.cellsOf 111 = 1 by kernel_rfl] at h0
  rw [show Try.prog.cellsOf 113 = 1 by kernel_rfl] at hl
  match cs, hl with
  | [a0], _ =>
    obtain ⟨A, c, ps, e, hR, _⟩ := open_sl (E := lpartE) (by kernel_rfl) (opens_lpart W) h0
    simp at e
    subst e
    exact ⟨A, c, ps, rfl, hR⟩
theorem opens_lnode (W : World) : Opens Try.prog W lnodeE (fun m => Rd W [] lpartE m.a m.c m.parts) := fun H enc n cs x h => by
  obtain ⟨hl, m0, y0, h0⟩ := trod_field (t := 115) (i := 0) (off := 0) (ty := 3) (by kernel_rfl) h
  obtain ⟨_, m1, y1, h1⟩ := trod_field (t := 115) (i := 1) (off := 1) (ty := 113) (by kernel_rfl) h
  rw [show Try.prog.cellsOf 3 = 1 by kernel_rfl] at h0
  rw [show Try.prog.cellsOf 113 = 1 by kernel_rfl] at h1
  rw [show Try.prog.cellsOf 115 = 2 by kernel_rfl] at hl
  match cs, hl with
  | [a0, a1], _ =>
    obtain ⟨n0, e0, _⟩ := trod_int1 (k := .i64) (by kernel_rfl) h0
    obtain ⟨A, c, ps, e1, hR⟩ := trod_formula h1
    simp at e0 e1
    subst e0 e1
    exact ⟨⟨n0, A, c, ps⟩, rfl, hR⟩
theorem trod_graph {W : World} {H : Type} {enc : TypeId × Value → H} {n : Nat} {cs : List Value} {x : DataW H × List MemPlace} (h : DataW.trod enc Try.prog W 0 (fun _ => true) true n 33 cs = some x) : ∃ A c ms, cs = [.slice A ms.length c] ∧ RdL W [] A c ms := by
  obtain ⟨hl, m0, y0, h0⟩ := trod_field (t := 33) (i := 0) (off := 0) (ty := 31) (by kernel_rfl) h
  rw [show Try.prog.cellsOf 31 = 1 by kernel_rfl] at h0
  rw [show Try.prog.cellsOf 33 = 1 by kernel_rfl] at hl
  match cs, hl with
  | [a0], _ =>
    obtain ⟨A, c, ms, e, hR, hg⟩ := open_sl (E := lnodeE) (by kernel_rfl) (opens_lnode W) h0
    simp at e
    subst e
    exact ⟨A, c, ms, rfl, hR, fun i hi => hg _ (List.getElem_mem hi)⟩
theorem arg_graph {W : World} {H : Type} {enc : TypeId × Value → H} {base : Nat} {v : Value} {d : DataW H} {p : List MemPlace} (hval : Value.okWide Try.prog W .any base 33 v) (h : DataW.Trod enc Try.prog W 0 (fun _ => true) true 33 v d p) :
    ∃ A c ms, v = .agg #[.slice A ms.length c] ∧ RdL W [] A c ms := by
  obtain ⟨fs, hu⟩ := is_struct (P := Try.prog) (t := 33) (i := 0) (r := (31, 0)) (by kernel_rfl)
  obtain ⟨cs, n, x, rfl, h'⟩ := arg_agg hu hval h
  obtain ⟨A, c, ms, e, hR⟩ := trod_graph h'
  exact ⟨A, c, ms, by rw [← e], hR⟩
theorem arg_formula {W : World} {H : Type} {enc : TypeId × Value → H} {base : Nat} {v : Value} {d : DataW H} {p : List MemPlace} (hval : Value.okWide Try.prog W .any base 113 v) (h : DataW.Trod enc Try.prog W 0 (fun _ => true) true 113 v d p) :
    ∃ A c ps, v = .agg #[.slice A ps.length c] ∧ Rd W [] lpartE A c ps := by
  obtain ⟨fs, hu⟩ := is_struct (P := Try.prog) (t := 113) (i := 0) (r := (111, 0)) (by kernel_rfl)
  obtain ⟨cs, n, x, rfl, h'⟩ := arg_agg hu hval h
  obtain ⟨A, c, ps, e, hR⟩ := trod_formula h'
  exact ⟨A, c, ps, by rw [← e], hR⟩
theorem opens_ints (W : World) : Opens Try.prog W intE (fun n => (Lit.int .i64 n).wf = true) := opens_int (by kernel_rfl) (fun _ => rfl)
theorem opens_bytes (W : World) : Opens Try.prog W byteE (fun n => (Lit.int .u8 n).wf = true) := opens_int (by kernel_rfl) (fun _ => rfl)
theorem wf_i64 {n : Int} (h : (Lit.int .i64 n).wf = true) : -9223372036854775808 ≤ n ∧ n ≤ 9223372036854775807 := by simpa [Lit.wf, IntKind.min, IntKind.max, IntKind.signed, IntKind.bits] using h
theorem wf_u8 {n : Int} (h : (Lit.int .u8 n).wf = true) : 0 ≤ n ∧ n ≤ 255 := by simpa [Lit.wf, IntKind.min, IntKind.max, IntKind.signed, IntKind.bits] using h
theorem kids : Kids Try.prog (· < Try.prog.types.size) := kids_rows (by kernel_rfl) (by kernel_rfl)
theorem full : ∀ t e, t < Try.prog.types.size → Try.prog.underlying t = some (.slice e) → 0 < Try.prog.cellsOf e := slices_full_of Try.prog (by kernel_rfl)
theorem own : ownKnob Try.prog.godebug = none := by kernel_rfl
theorem bool_res {H : Type} {enc : TypeId × Value → H} {W' : World} {B : Nat} : DataW.TrodAll enc Try.prog W' B (fun _ => false) false [4] [.bool true] [.lit (.bool true)] [] := trodAll_cons_mk (shut_bool (by kernel_rfl) _) trodAll_mk0
end SG
