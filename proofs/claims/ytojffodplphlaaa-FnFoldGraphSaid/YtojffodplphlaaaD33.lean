/- Contracts: the laws' marks of a graph, told in full; graphs and nodes compared. -/
import Derived.Test.YtojffodplphlaaaD23
import Derived.Test.YtojffodplphlaaaD32
namespace SG
open Go Go.RowKit Go.Proofs
set_option linter.unusedVariables false
set_option linter.unusedSimpArgs false
set_option maxRecDepth 100000
def markPts (k : Int) (n : Nat) : List Part := (List.range n).map fun (j : Nat) => markPt (k + 5 * j)
@[simp] theorem markPts_length (k : Int) (n : Nat) : (markPts k n).length = n := by simp [markPts]
theorem markPts_get {k : Int} {n j : Nat} (h : j < (markPts k n).length) : (markPts k n)[j] = markPt (k + 5 * j) := by simp [markPts]
theorem markPartX_spec (w0 : World) (L : List Asn) (A : Option Addr) (c : Nat) (xs : List Part) (k : Int) (h0 : 0 ≤ k) (h1 : k ≤ 9000000000000000) (hl : xs.length ≤ 1100000) :
    Tr Try.prog 131 #[.slice A xs.length c, .int .i64 k] w0 (row partE A c xs :: L) (fun v L' => v = .int .i64 (k + 5 * xs.length) ∧ L' = row partE A c (markPts k xs.length) :: L) := by
  refine Tr.enter (args := [.slice A xs.length c, .int .i64 k]) Try.func131 Try.ntmps131 rfl rfl ?_
  refine GC.seq ?_
  refine GC.region ?_
  refine GL.v Wag ?_
  refine GL.nil ?_
  refine GE.seq ?_
  refine GC.seq ?_
  refine GC.seq ?_
  refine GC.region ?_
  refine GL.v Wag ?_
  refine GL.nil ?_
  refine GE.seq ?_
  refine GC.block ?_
  -- loop 1: carried slots [1, 5]
  refine GC.loopK (α := Nat × List Part) (fun x => x.1 ≤ xs.length ∧ x.2.length = xs.length ∧ ∀ j (h : j < x.1) (h' : j < x.2.length), x.2[j] = markPt (k + 5 * j)) (fun x => [(1, .int .i64 (k + 5 * x.1)), (5, .int .i64 x.1)]) [(0, _)] (fun x => row partE A c x.2 :: L) (fun x => xs.length - x.1) (0, xs) (by refine Keeps.cons (by simp; rfl) ?_; repeat (first | exact Keeps.nil | refine Keeps.cons rfl ?_)) Wsb ⟨Nat.zero_le _, rfl, fun _ h => by dsimp only at h; omega⟩ ?_
  rintro ⟨i, ys⟩ ⟨hi, hy, hm⟩
  dsimp only at hi hy hm ⊢
  rw [← hy]
  refine GC.seq ?_
  refine GC.seq ?_
  refine GC.region ?_
  refine GL.v Wmv ?_
  refine GL.v Wmv ?_
  refine GL.v Wln ?_
  refine GL.v Wls ?_
  refine GL.nil ?_
  refine GE.seq ?_
  refine GC.ifs (fun h1 => ?_) (fun h1 => ?_)
  · -- T
    have hil : i < ys.length := by omega
    refine GC.skip ?_
    refine GE.seq ?_
    refine GC.seq ?_
    refine GC.block ?_
    refine GC.seq ?_
    refine GC.region ?_
    refine GL.v Wmv ?_
    refine GL.v Wmv ?_
    refine GL.v Wmv ?_
    refine GL.v Wix ?_
    refine GL.v Wfa ?_
    refine GL.store_part rfl rfl Wpk (by first | omega | (simp; done) | (simp; omega)) rfl ?_
    refine GL.nil ?_
    refine GE.seq ?_
    refine GC.seq ?_
    refine GC.region ?_
    refine GL.v Wmv ?_
    refine GL.v Wad ?_
    refine GL.v Wag ?_
    refine GL.nil ?_
    refine GE.seq ?_
    refine GC.seq ?_
    refine GC.region ?_
    refine GL.v Wmv ?_
    refine GL.v Wmv ?_
    refine GL.v Wmv ?_
    refine GL.v Wix ?_
    refine GL.v Wfa ?_
    refine GL.store_part rfl rfl Wpk (by first | omega | (simp; done) | (simp; omega)) rfl ?_
    refine GL.nil ?_
    refine GE.seq ?_
    refine GC.seq ?_
    refine GC.region ?_
    refine GL.v Wmv ?_
    refine GL.v Wad ?_
    refine GL.v Wag ?_
    refine GL.nil ?_
    refine GE.seq ?_
    refine GC.seq ?_
    refine GC.region ?_
    refine GL.v Wmv ?_
    refine GL.v Wmv ?_
    refine GL.v Wmv ?_
    refine GL.v Wix ?_
    refine GL.v Wfa ?_
    refine GL.store_part rfl rfl Wpk (by first | omega | (simp; done) | (simp; omega)) rfl ?_
    refine GL.nil ?_
    refine GE.seq ?_
    refine GC.seq ?_
    refine GC.region ?_
    refine GL.v Wmv ?_
    refine GL.v Wad ?_
    refine GL.v Wag ?_
    refine GL.nil ?_
    refine GE.seq ?_
    refine GC.seq ?_
    refine GC.region ?_
    refine GL.v Wmv ?_
    refine GL.v Wmv ?_
    refine GL.v Wmv ?_
    refine GL.v Wix ?_
    refine GL.v Wfa ?_
    refine GL.store_part rfl rfl Wpk (by first | omega | (simp; done) | (simp; omega)) rfl ?_
    refine GL.nil ?_
    refine GE.seq ?_
    refine GC.seq ?_
    refine GC.region ?_
    refine GL.v Wmv ?_
    refine GL.v Wad ?_
    refine GL.v Wag ?_
    refine GL.nil ?_
    refine GE.seq ?_
    refine GC.seq ?_
    refine GC.region ?_
    refine GL.v Wmv ?_
    refine GL.v Wmv ?_
    refine GL.v Wmv ?_
    refine GL.v Wix ?_
    refine GL.v Wfa ?_
    refine GL.store_part rfl rfl Wpk (by first | omega | (simp; done) | (simp; omega)) rfl ?_
    refine GL.nil ?_
    refine GE.seq ?_
    refine GC.region ?_
    refine GL.v Wmv ?_
    refine GL.v Wad ?_
    refine GL.v Wag ?_
    refine GL.nil ?_
    refine GE.block ?_
    refine GE.seq ?_
    refine GC.region ?_
    refine GL.v Wmv ?_
    refine GL.v Wad ?_
    refine GL.v Wag ?_
    refine GL.nil ?_
    -- round of loop 1, path T
    refine GE.round (i + 1, ys.set i (markPt (k + 5 * i))) ⟨by dsimp only; omega, by simp, fun j h h' => ?_⟩ (by dsimp only; omega) (by dsimp only; rw [show k + 5 * (i : Int) + 1 + 1 + 1 + 1 + 1 = k + 5 * ((i + 1 : Nat) : Int) by omega]; repeat (first | exact Keeps.nil | refine Keeps.cons rfl ?_)) (by dsimp only; refine Sub.cons (L1 := L) ?_ .refl; simp only [List.set_set, List.getElem_set_self, Part.put, markPt]; rw [show k + 5 * (i : Int) + 1 + 1 = k + 5 * (i : Int) + 2 by omega, show k + 5 * (i : Int) + 2 + 1 = k + 5 * (i : Int) + 3 by omega, show k + 5 * (i : Int) + 3 + 1 = k + 5 * (i : Int) + 4 by omega]; exact Pick.head)
    dsimp only
    rw [List.getElem_set]
    split
    · rename_i e; subst e; rfl
    · exact hm j (by omega) _
  · -- F
    have hie : i = ys.length := by omega
    have he : ys = markPts k ys.length := List.ext_getElem (by simp) fun j h h' => by rw [markPts_get]; exact hm j (by omega) h
    refine GC.exit ?_
    refine GE.seq_exit ?_
    refine GE.loop_exit ?_
    refine GE.block_exit ?_
    refine GE.seq ?_
    refine GC.seq ?_
    refine GC.region ?_
    refine GL.v Wmv ?_
    refine GL.v Wag ?_
    refine GL.nil ?_
    refine GE.seq ?_
    refine GC.ret ?_
    -- returns, path F
    refine GE.ret_tmp (L' := row partE A c ys :: L) (.inl rfl) rfl rfl Wsb ?_
    exact ⟨by rw [hie], by rw [← he]⟩
theorem heldPartS_spec (w0 : World) (L : List Asn) (A : Option Addr) (c : Nat) (k : Int) (n : Nat) (hX : Rd w0 L partE A c (markPts k n)) (h0 : 0 ≤ k) (h1 : k ≤ 9000000000000000) (hl : n ≤ 1100000) :
    Tr Try.prog 153 #[.slice A n c, .int .i64 k] w0 L (fun v L' => v = .int .i64 (k + 5 * n) ∧ L' = L) := by
  have hml := markPts_length k n
  refine Tr.enter (args := [.slice A n c, .int .i64 k]) Try.func153 Try.ntmps153 rfl rfl ?_
  refine GC.seq ?_
  refine GC.region ?_
  refine GL.v Wag ?_
  refine GL.nil ?_
  refine GE.seq ?_
  refine GC.seq ?_
  refine GC.seq ?_
  refine GC.region ?_
  refine GL.v Wag ?_
  refine GL.nil ?_
  refine GE.seq ?_
  refine GC.block ?_
  -- loop 1: carried slots [1, 5]
  refine GC.loopK (α := Nat) (fun i => i ≤ n) (fun i => [(1, .int .i64 (k + 5 * i)), (5, .int .i64 i)]) [(0, _)] (fun i => L) (fun i => n - i) 0 (by refine Keeps.cons (by simp; rfl) ?_; repeat (first | exact Keeps.nil | refine Keeps.cons rfl ?_)) Wsb (Nat.zero_le _) ?_
  rintro i hi
  refine GC.seq ?_
  refine GC.seq ?_
  refine GC.region ?_
  refine GL.v Wmv ?_
  refine GL.v Wmv ?_
  refine GL.v Wln ?_
  refine GL.v Wls ?_
  refine GL.nil ?_
  refine GE.seq ?_
  refine GC.ifs (fun h1 => ?_) (fun h1 => ?_)
  · -- T
    have hil : i < n := by omega
    have hgt : (markPts k n)[i]'(by omega) = markPt (k + 5 * i) := markPts_get _
    refine GC.skip ?_
    refine GE.seq ?_
    refine GC.seq ?_
    refine GC.block ?_
    refine GC.seq ?_
    refine GC.seq ?_
    refine GC.region ?_
    refine GL.v Wmv ?_
    refine GL.v Wmv ?_
    refine GL.v Wix ?_
    refine GL.v Wfa ?_
    refine GL.v Wlef ?_
    refine GL.v Wmv ?_
    refine GL.v Wnq ?_
    refine GL.nil ?_
    refine GE.seq ?_
    refine GC.ifs (fun h2 => ?_) (fun h2 => ?_)
    · -- TT
      exact absurd (by rw [hgt]; rfl) h2
    · -- TF
      refine GC.skip ?_
      refine GE.seq ?_
      refine GC.seq ?_
      refine GC.region ?_
      refine GL.v Wmv ?_
      refine GL.v Wad ?_
      refine GL.v Wag ?_
      refine GL.nil ?_
      refine GE.seq ?_
      refine GC.seq ?_
      refine GC.seq ?_
      refine GC.region ?_
      refine GL.v Wmv ?_
      refine GL.v Wmv ?_
      refine GL.v Wix ?_
      refine GL.v Wfa ?_
      refine GL.v Wlef ?_
      refine GL.v Wmv ?_
      refine GL.v Wnq ?_
      refine GL.nil ?_
      refine GE.seq ?_
      refine GC.ifs (fun h3 => ?_) (fun h3 => ?_)
      · -- TFT
        exact absurd (by rw [hgt]; simp only [markPt]) h3
      · -- TFF
        refine GC.skip ?_
        refine GE.seq ?_
        refine GC.seq ?_
        refine GC.region ?_
        refine GL.v Wmv ?_
        refine GL.v Wad ?_
        refine GL.v Wag ?_
        refine GL.nil ?_
        refine GE.seq ?_
        refine GC.seq ?_
        refine GC.seq ?_
        refine GC.region ?_
        refine GL.v Wmv ?_
        refine GL.v Wmv ?_
        refine GL.v Wix ?_
        refine GL.v Wfa ?_
        refine GL.v Wlef ?_
        refine GL.v Wmv ?_
        refine GL.v Wnq ?_
        refine GL.nil ?_
        refine GE.seq ?_
        refine GC.ifs (fun h4 => ?_) (fun h4 => ?_)
        · -- TFFT
          exact absurd (by rw [hgt]; simp only [markPt]; omega) h4
        · -- TFFF
          refine GC.skip ?_
          refine GE.seq ?_
          refine GC.seq ?_
          refine GC.region ?_
          refine GL.v Wmv ?_
          refine GL.v Wad ?_
          refine GL.v Wag ?_
          refine GL.nil ?_
          refine GE.seq ?_
          refine GC.seq ?_
          refine GC.seq ?_
          refine GC.region ?_
          refine GL.v Wmv ?_
          refine GL.v Wmv ?_
          refine GL.v Wix ?_
          refine GL.v Wfa ?_
          refine GL.v Wlef ?_
          refine GL.v Wmv ?_
          refine GL.v Wnq ?_
          refine GL.nil ?_
          refine GE.seq ?_
          refine GC.ifs (fun h5 => ?_) (fun h5 => ?_)
          · -- TFFFT
            exact absurd (by rw [hgt]; simp only [markPt]; omega) h5
          · -- TFFFF
            refine GC.skip ?_
            refine GE.seq ?_
            refine GC.seq ?_
            refine GC.region ?_
            refine GL.v Wmv ?_
            refine GL.v Wad ?_
            refine GL.v Wag ?_
            refine GL.nil ?_
            refine GE.seq ?_
            refine GC.seq ?_
            refine GC.seq ?_
            refine GC.region ?_
            refine GL.v Wmv ?_
            refine GL.v Wmv ?_
            refine GL.v Wix ?_
            refine GL.v Wfa ?_
            refine GL.v Wlef ?_
            refine GL.v Wmv ?_
            refine GL.v Wnq ?_
            refine GL.nil ?_
            refine GE.seq ?_
            refine GC.ifs (fun h6 => ?_) (fun h6 => ?_)
            · -- TFFFFT
              exact absurd (by rw [hgt]; simp only [markPt]; omega) h6
            · -- TFFFFF
              refine GC.skip ?_
              refine GE.seq ?_
              refine GC.region ?_
              refine GL.v Wmv ?_
              refine GL.v Wad ?_
              refine GL.v Wag ?_
              refine GL.nil ?_
              refine GE.block ?_
              refine GE.seq ?_
              refine GC.region ?_
              refine GL.v Wmv ?_
              refine GL.v Wad ?_
              refine GL.v Wag ?_
              refine GL.nil ?_
              -- round of loop 1, path TFFFFF
              refine GE.round (i + 1) (by omega) (by omega) (by rw [show k + 5 * (i : Int) + 1 + 1 + 1 + 1 + 1 = k + 5 * ((i + 1 : Nat) : Int) by omega]; repeat (first | exact Keeps.nil | refine Keeps.cons rfl ?_)) Wsb
  · -- F
    refine GC.exit ?_
    refine GE.seq_exit ?_
    refine GE.loop_exit ?_
    refine GE.block_exit ?_
    refine GE.seq ?_
    refine GC.seq ?_
    refine GC.region ?_
    refine GL.v Wmv ?_
    refine GL.v Wag ?_
    refine GL.nil ?_
    refine GE.seq ?_
    refine GC.ret ?_
    -- returns, path F
    refine GE.ret_tmp (L' := L) (.inl rfl) rfl rfl Wsb ?_
    exact ⟨by rw [show i = n by omega], rfl⟩
/-! graphs -/
def nAt (k : Int) (ms : List NdM) (i : Nat) : Int := (ms.take i).foldl (fun s m => s + 1 + 5 * m.parts.length) k
theorem nAt_zero (k : Int) (ms : List NdM) : nAt k ms 0 = k := by simp [nAt]
theorem nAt_succ (k : Int) {ms : List NdM} {i : Nat} (h : i < ms.length) : nAt k ms (i + 1) = nAt k ms i + 1 + 5 * ms[i].parts.length := by
  unfold nAt
  rw [List.take_succ_eq_append_getElem h, List.foldl_append]; rfl
theorem nAt_bound {k : Int} {ms : List NdM} (hS : SizeG ms) : ∀ (i : Nat), i ≤ ms.length → k ≤ nAt k ms i ∧ nAt k ms i ≤ k + 6000000 * i := by
  intro i
  induction i with
  | zero => intro _; rw [nAt_zero]; omega
  | succ i ih =>
    intro h
    have h1 := ih (by omega)
    have h2 := hS.2 i (by omega)
    rw [nAt_succ k (by omega)]
    omega
def NdM.marked (k : Int) (ms : List NdM) (i : Nat) (m : NdM) : NdM := ⟨nAt k ms i, m.a, m.c, markPts (nAt k ms i + 1) m.parts.length⟩
def midG (k : Int) (ms : List NdM) (i : Nat) : List NdM := ms.mapIdx fun j m => if j < i then NdM.marked k ms j m else m
def markG (k : Int) (ms : List NdM) : List NdM := midG k ms ms.length
@[simp] theorem midG_length (k : Int) (ms : List NdM) (i : Nat) : (midG k ms i).length = ms.length := by simp [midG]
@[simp] theorem markG_length (k : Int) (ms : List NdM) : (markG k ms).length = ms.length := by simp [markG]
theorem midG_get {k : Int} {ms : List NdM} {i j : Nat} (h : j < (midG k ms i).length) : (midG k ms i)[j] = if j < i then NdM.marked k ms j (ms[j]'(by simpa using h)) else ms[j]'(by simpa using h) := by simp [midG]
theorem midG_zero (k : Int) (ms : List NdM) : midG k ms 0 = ms := List.ext_getElem (by simp) fun j h1 h2 => by rw [midG_get, if_neg (by omega)]
theorem midG_self {k : Int} {ms : List NdM} {i : Nat} (h : i < (midG k ms i).length) : (midG k ms i)[i] = ms[i]'(by simpa using h) := by rw [midG_get, if_neg (by omega)]
theorem midG_set {k : Int} {ms : List NdM} {i : Nat} (h : i < ms.length) : (midG k ms i).set i (NdM.marked k ms i ms[i]) = midG k ms (i + 1) := by
  refine List.ext_getElem (by simp) fun j h1 h2 => ?_
  rw [List.getElem_set, midG_get, midG_get]
  by_cases e : i = j
  · subst e; rw [if_pos rfl, if_pos (by omega)]
  · rw [if_neg e]
    by_cases h3 : j < i
    · rw [if_pos h3, if_pos (by omega)]
    · rw [if_neg h3, if_neg (by omega)]
theorem markG_get {k : Int} {ms : List NdM} {j : Nat} (h : j < (markG k ms).length) : (markG k ms)[j] = NdM.marked k ms j (ms[j]'(by simpa using h)) := by
  have hj : j < ms.length := by simpa using h
  have h' : j < (midG k ms ms.length).length := h
  show (midG k ms ms.length)[j] = _
  rw [midG_get, if_pos hj]
theorem row_nodeE_congr {A : Option Addr} {c : Nat} {ls ms : List NdM} (hl : ls.length = ms.length) (h : ∀ i (h1 : i < ls.length) (h2 : i < ms.length), ls[i].kind = ms[i].kind ∧ ls[i].a = ms[i].a ∧ ls[i].c = ms[i].c ∧ ls[i].parts.length = ms[i].parts.length) : row nodeE A c ls = row nodeE A c ms := by
  have e : ls.map nodeE.enc = ms.map nodeE.enc := by
    refine List.ext_getElem (by simp [hl]) fun i h1 h2 => ?_
    have i1 : i < ls.length := by simpa using h1
    have i2 : i < ms.length := by simpa using h2
    have h3 := h i i1 i2
    simp only [List.getElem_map]
    show (Value.agg #[.int .i64 (ls[i]'i1).kind, .slice (ls[i]'i1).a (ls[i]'i1).parts.length (ls[i]'i1).c]).cells.toList = (Value.agg #[.int .i64 (ms[i]'i2).kind, .slice (ms[i]'i2).a (ms[i]'i2).parts.length (ms[i]'i2).c]).cells.toList
    rw [h3.1, h3.2.1, h3.2.2.1, h3.2.2.2]
  have e2 : nodeE.flat ls = nodeE.flat ms := by unfold El.flat; first | rw [e] | (simp only [List.flatMap_def]; rw [e])
  have e3 : ls = [] ↔ ms = [] := by rw [← List.length_eq_zero_iff, ← List.length_eq_zero_iff, hl]
  funext k
  unfold row
  rw [e2, hl]
  simp only [e3]
theorem markNodeX_spec (w0 : World) (L : List Asn) (A : Option Addr) (c : Nat) (ms : List NdM) (hS : SizeG ms) (k : Int) (h0 : 0 ≤ k) (h1 : k ≤ 1000) :
    Tr Try.prog 86 #[.slice A ms.length c, .int .i64 k] w0 (row nodeE A c ms :: partsA ms :: L) (fun v L' => v = .int .i64 (nAt k ms ms.length) ∧ L' = row nodeE A c (markG k ms) :: partsA (markG k ms) :: L) := by
  have hSl := hS.1
  refine Tr.enter (args := [.slice A ms.length c, .int .i64 k]) Try.func86 Try.ntmps86 rfl rfl ?_
  refine GC.seq ?_
  refine GC.region ?_
  refine GL.v Wag ?_
  refine GL.nil ?_
  refine GE.seq ?_
  refine GC.seq ?_
  refine GC.seq ?_
  refine GC.region ?_
  refine GL.v Wag ?_
  refine GL.nil ?_
  refine GE.seq ?_
  refine GC.block ?_
  -- loop 1: carried slots [1, 5]
  refine GC.loopK (α := Nat) (fun i => i ≤ ms.length) (fun i => [(1, .int .i64 (nAt k ms i)), (5, .int .i64 i)]) [(0, _)] (fun i => row nodeE A c (midG k ms i) :: partsA (midG k ms i) :: L) (fun i => ms.length - i) 0 (by rw [nAt_zero]; exact Wkp) (by rw [midG_zero]; exact Wsb) (Nat.zero_le _) ?_
  rintro i hi
  have hkb := nAt_bound (k := k) hS i hi
  have hmg := midG_length k ms i
  refine GC.seq ?_
  refine GC.seq ?_
  refine GC.region ?_
  refine GL.v Wmv ?_
  refine GL.v Wmv ?_
  refine GL.v Wln ?_
  refine GL.v Wls ?_
  refine GL.nil ?_
  refine GE.seq ?_
  refine GC.ifs (fun h1 => ?_) (fun h1 => ?_)
  · -- T
    have hil : i < ms.length := by omega
    have hin : i < (midG k ms i).length := by omega
    have hni : (midG k ms i)[i]'hin = ms[i] := midG_self _
    have hSi := hS.2 i hil
    have hks := nAt_succ k hil
    refine GC.skip ?_
    refine GE.seq ?_
    refine GC.seq ?_
    refine GC.block ?_
    refine GC.seq ?_
    refine GC.region ?_
    refine GL.v Wmv ?_
    refine GL.v Wmv ?_
    refine GL.v Wmv ?_
    refine GL.v Wix ?_
    refine GL.v Wfa ?_
    refine GL.store_el_cell ((midG k ms i)[i].setKind (nAt k ms i)) (u := .int .i64 (nAt k ms i)) rfl rfl Wpk rfl rfl Wom (by decide) rfl ?_
    obtain ⟨n2, hn2⟩ : ∃ n2, n2 = (midG k ms i).set i ((midG k ms i)[i].setKind (nAt k ms i)) := ⟨_, rfl⟩
    rw [← hn2]
    have h2l : n2.length = ms.length := by rw [hn2]; simp
    have h2i : n2[i]'(by omega) = ms[i].setKind (nAt k ms i) := by simp [hn2, hni]
    refine GL.nil ?_
    refine GE.seq ?_
    refine GC.seq ?_
    refine GC.region ?_
    refine GL.v Wmv ?_
    refine GL.v Wad ?_
    refine GL.v Wag ?_
    refine GL.nil ?_
    refine GE.seq ?_
    refine GC.region ?_
    refine GL.v Wmv ?_
    refine GL.v Wmv ?_
    refine GL.v Wix ?_
    refine GL.v Wfa ?_
    refine GL.v Wfa ?_
    refine GL.v (Ev.load_el_cell (E := nodeE) (A := A) (k := i) (j := 1) (xs := n2) (congrArg (fun a => some (Value.pointer (some a))) (addr_add0 ((elA A i nodeE.size).add 1))) (Rd.of_pick Wpk) Imp.refl (List.getElem?_eq_getElem Wom) rfl) ?_
    refine GL.v Wmv ?_
    rw [h2i]
    refine GL.state (fun w hs => St.parts_out hin Wpk hs) ?_
    rw [hni]
    refine GL.callP rfl rfl Wpk (markPartX_spec _ _ _ _ ms[i].parts _ Wom Wom Wom) ?_
    rintro _ _ ⟨rfl, rfl⟩
    rw [← hks]
    refine GL.v Wag ?_
    refine GL.nil ?_
    refine GE.block ?_
    refine GE.seq ?_
    refine GC.region ?_
    refine GL.v Wmv ?_
    refine GL.v Wad ?_
    refine GL.v Wag ?_
    refine GL.nil ?_
    -- round of loop 1, path T
    refine GE.state (fun w hs => St.parts_in (m := NdM.marked k ms i ms[i]) (xs := (midG k ms i).take i) (ys := (midG k ms i).drop (i + 1)) Wpk Wpk hs) ?_
    have eq : (midG k ms i).take i ++ NdM.marked k ms i ms[i] :: (midG k ms i).drop (i + 1) = midG k ms (i + 1) := by rw [← midG_set hil, List.set_eq_take_append_cons_drop]; simp [hil]
    rw [eq]
    have er : row nodeE A c n2 = row nodeE A c (midG k ms (i + 1)) := row_nodeE_congr (by simp [h2l]) fun j j1 j2 => by
      have g1 : n2[j] = ((midG k ms i).set i ((midG k ms i)[i].setKind (nAt k ms i)))[j]'(by rw [← hn2]; exact j1) := by simp only [hn2]
      have g2 : (midG k ms (i + 1))[j] = ((midG k ms i).set i (NdM.marked k ms i ms[i]))[j]'(by rw [midG_set hil]; exact j2) := by simp only [midG_set hil]
      rw [g1, g2, List.getElem_set, List.getElem_set]
      split
      · simp [NdM.setKind, NdM.marked, hni]
      · exact ⟨rfl, rfl, rfl, rfl⟩
    rw [er]
    refine GE.round (i + 1) (by omega) (by omega) Wkp Wsb
  · -- F
    have hie : i = ms.length := by omega
    subst hie
    rw [show midG k ms ms.length = markG k ms from rfl]
    refine GC.exit ?_
    refine GE.seq_exit ?_
    refine GE.loop_exit ?_
    refine GE.block_exit ?_
    refine GE.seq ?_
    refine GC.seq ?_
    refine GC.region ?_
    refine GL.v Wmv ?_
    refine GL.v Wag ?_
    refine GL.nil ?_
    refine GE.seq ?_
    refine GC.ret ?_
    -- returns, path F
    refine GE.ret_tmp (L' := row nodeE A c (markG k ms) :: partsA (markG k ms) :: L) (.inl rfl) rfl rfl Wsb ?_
    exact ⟨rfl, rfl⟩
theorem markGraphX_spec (w0 : World) (L : List Asn) (A : Option Addr) (c : Nat) (ms : List NdM) (hS : SizeG ms) (k : Int) (h0 : 0 ≤ k) (h1 : k ≤ 1000) :
    Tr Try.prog 33 #[.agg #[.slice A ms.length c], .int .i64 k] w0 (row nodeE A c ms :: partsA ms :: L) (fun v L' => v = .int .i64 (nAt k ms ms.length) ∧ L' = row nodeE A c (markG k ms) :: partsA (markG k ms) :: L) := by
  have hSl := hS.1
  refine Tr.enter (args := [.agg #[.slice A ms.length c], .int .i64 k]) Try.func33 Try.ntmps33 rfl rfl ?_
  refine GC.seq ?_
  refine GC.region ?_
  refine GL.box_agg rfl rfl ?_; intro g2
  refine GL.v Wag ?_
  refine GL.nil ?_
  refine GE.seq ?_
  refine GC.seq ?_
  refine GC.region ?_
  refine GL.v Wfa ?_
  refine GL.v Wlb ?_
  refine GL.v Wmv ?_
  refine GL.front (A := partsA ms) Wpk ?_
  refine GL.front (A := row nodeE A c ms) Wpk ?_
  refine GL.call rfl rfl (markNodeX_spec _ _ _ _ _ hS _ h0 h1) ?_
  rintro _ _ ⟨rfl, rfl⟩
  refine GL.v Wag ?_
  refine GL.nil ?_
  refine GE.seq ?_
  refine GC.seq ?_
  refine GC.region ?_
  refine GL.v Wmv ?_
  refine GL.v Wag ?_
  refine GL.nil ?_
  refine GE.seq ?_
  refine GC.ret ?_
  -- returns, path 
  refine GE.ret_tmp (L' := row nodeE A c (markG k ms) :: partsA (markG k ms) :: L) (.inl rfl) rfl rfl Wsb ?_
  exact ⟨rfl, rfl⟩
theorem heldNodeS_spec (w0 : World) (L : List Asn) (A : Option Addr) (c n : Nat) (ms : List NdM) (k : Int) (hG : RdG w0 L A c (markG k ms)) (hS : SizeG ms) (hn : n = ms.length) (h0 : 0 ≤ k) (h1 : k ≤ 1000) :
    Tr Try.prog 116 #[.slice A n c, .int .i64 k] w0 L (fun v L' => v = .int .i64 (nAt k ms ms.length) ∧ L' = L) := by
  subst hn
  have hSl := hS.1
  have hN := hG.nodes
  have hml := markG_length k ms
  refine Tr.enter (args := [.slice A ms.length c, .int .i64 k]) Try.func116 Try.ntmps116 rfl rfl ?_
  refine GC.seq ?_
  refine GC.region ?_
  refine GL.v Wag ?_
  refine GL.nil ?_
  refine GE.seq ?_
  refine GC.seq ?_
  refine GC.seq ?_
  refine GC.region ?_
  refine GL.v Wag ?_
  refine GL.nil ?_
  refine GE.seq ?_
  refine GC.block ?_
  -- loop 1: carried slots [1, 5]
  refine GC.loopK (α := Nat) (fun i => i ≤ ms.length) (fun i => [(1, .int .i64 (nAt k ms i)), (5, .int .i64 i)]) [(0, _)] (fun i => L) (fun i => ms.length - i) 0 (by rw [nAt_zero]; exact Wkp) Wsb (Nat.zero_le _) ?_
  rintro i hi
  have hkb := nAt_bound (k := k) hS i hi
  refine GC.seq ?_
  refine GC.seq ?_
  refine GC.region ?_
  refine GL.v Wmv ?_
  refine GL.v Wmv ?_
  refine GL.v Wln ?_
  refine GL.v Wls ?_
  refine GL.nil ?_
  refine GE.seq ?_
  refine GC.ifs (fun h1 => ?_) (fun h1 => ?_)
  · -- T
    have hil : i < ms.length := by omega
    have him : i < (markG k ms).length := by omega
    have hgi : (markG k ms)[i]'him = NdM.marked k ms i ms[i] := markG_get _
    have hP := hG.parts i him
    rw [hgi] at hP
    have hP2 : Rd w0 L partE ms[i].a ms[i].c (markPts (nAt k ms i + 1) ms[i].parts.length) := hP
    have hSi := hS.2 i hil
    have hks := nAt_succ k hil
    refine GC.skip ?_
    refine GE.seq ?_
    refine GC.seq ?_
    refine GC.block ?_
    refine GC.seq ?_
    refine GC.seq ?_
    refine GC.region ?_
    refine GL.v Wmv ?_
    refine GL.v Wmv ?_
    refine GL.v Wix ?_
    refine GL.v Wfa ?_
    refine GL.v Wlef ?_
    refine GL.v Wmv ?_
    refine GL.v Wnq ?_
    refine GL.nil ?_
    refine GE.seq ?_
    refine GC.ifs (fun h2 => ?_) (fun h2 => ?_)
    · -- TT
      exact absurd (by rw [hgi]; rfl) h2
    · -- TF
      refine GC.skip ?_
      refine GE.seq ?_
      refine GC.seq ?_
      refine GC.region ?_
      refine GL.v Wmv ?_
      refine GL.v Wad ?_
      refine GL.v Wag ?_
      refine GL.nil ?_
      refine GE.seq ?_
      refine GC.seq ?_
      refine GC.region ?_
      refine GL.v Wmv ?_
      refine GL.v Wmv ?_
      refine GL.v Wix ?_
      refine GL.v Wfa ?_
      refine GL.v Wfa ?_
      refine GL.v (Ev.load_el_cell (E := nodeE) (A := A) (k := i) (j := 1) (xs := markG k ms) (congrArg (fun a => some (Value.pointer (some a))) (addr_add0 ((elA A i nodeE.size).add 1))) (hN.imp Wim) Imp.refl (List.getElem?_eq_getElem him) rfl) ?_
      refine GL.v Wmv ?_
      have hpl : (NdM.marked k ms i ms[i]).parts.length = ms[i].parts.length := by simp [NdM.marked]
      rw [hgi, hpl]
      refine GL.call rfl rfl (heldPartS_spec _ _ ms[i].a ms[i].c (nAt k ms i + 1) ms[i].parts.length (hP2.imp Wim) Wom Wom Wom) ?_
      rintro _ _ ⟨rfl, rfl⟩
      rw [← hks]
      refine GL.v Wag ?_
      refine GL.nil ?_
      refine GE.seq ?_
      refine GC.seq ?_
      refine GC.region ?_
      refine GL.v Wmv ?_
      refine GL.v Wls ?_
      refine GL.nil ?_
      refine GE.seq ?_
      refine GC.ifs (fun h3 => ?_) (fun h3 => ?_)
      · -- TFT
        omega
      · -- TFF
        refine GC.skip ?_
        refine GE.block ?_
        refine GE.seq ?_
        refine GC.region ?_
        refine GL.v Wmv ?_
        refine GL.v Wad ?_
        refine GL.v Wag ?_
        refine GL.nil ?_
        -- round of loop 1, path TFF
        refine GE.round (i + 1) (by omega) (by omega) Wkp Wsb
  · -- F
    refine GC.exit ?_
    refine GE.seq_exit ?_
    refine GE.loop_exit ?_
    refine GE.block_exit ?_
    refine GE.seq ?_
    refine GC.seq ?_
    refine GC.region ?_
    refine GL.v Wmv ?_
    refine GL.v Wag ?_
    refine GL.nil ?_
    refine GE.seq ?_
    refine GC.ret ?_
    -- returns, path F
    refine GE.ret_tmp (L' := L) (.inl rfl) rfl rfl Wsb ?_
    exact ⟨by rw [show i = ms.length by omega], rfl⟩
theorem szNodeS2_spec (w0 : World) (L : List Asn) (A : Option Addr) (c : Nat) (ms : List NdM) (hG : RdL w0 L A c ms) (left : Int) (l0 : 0 ≤ left) (l1 : left ≤ 1048576) :
    Tr Try.prog 83 #[.slice A ms.length c, .int .i64 left] w0 L (fun v L' => ∃ x : Int, v = .int .i64 x ∧ -1 ≤ x ∧ x ≤ left ∧ (0 ≤ x → SizeG ms ∧ ms.length ≤ 1048576) ∧ L' = L) := by
  have hN := hG.nodes
  refine Tr.rd_cap hN fun hc1 hc2 => ?_
  refine Tr.enter (args := [.slice A ms.length c, .int .i64 left]) Try.func83 Try.ntmps83 rfl rfl ?_
  refine GC.seq ?_
  refine GC.region ?_
  refine GL.v Wag ?_
  refine GL.nil ?_
  refine GE.seq ?_
  refine GC.seq ?_
  refine GC.region ?_
  refine GL.v Wmv ?_
  refine GL.v Wmv ?_
  refine GL.v Wln ?_
  refine GL.v Wsu ?_
  refine GL.v Wag ?_
  refine GL.nil ?_
  refine GE.seq ?_
  refine GC.seq ?_
  refine GC.seq ?_
  refine GC.region ?_
  refine GL.v Wmv ?_
  refine GL.v Wls ?_
  refine GL.nil ?_
  refine GE.seq ?_
  refine GC.ifs (fun h1 => ?_) (fun h1 => ?_)
  · -- T
    refine GC.seq ?_
    refine GC.region ?_
    refine GL.v Wag ?_
    refine GL.nil ?_
    refine GE.seq ?_
    refine GC.ret ?_
    refine GE.seq_ret ?_
    -- returns, path T
    refine GE.ret_tmp (L' := L) (.inl rfl) rfl rfl Wsb ?_
    exact ⟨-1, rfl, by omega, by omega, fun h => by omega, rfl⟩
  · -- F
    refine GC.skip ?_
    refine GE.seq ?_
    refine GC.seq ?_
    refine GC.seq ?_
    refine GC.region ?_
    refine GL.v Wag ?_
    refine GL.nil ?_
    refine GE.seq ?_
    refine GC.block ?_
    -- loop 1: carried slots [1, 5]
    refine GC.loopK (α := Nat × Int) (fun x => x.1 ≤ ms.length ∧ 0 ≤ x.2 ∧ x.2 ≤ left ∧ ∀ j (h : j < x.1) (h' : j < ms.length), ms[j].parts.length ≤ 1100000) (fun x => [(1, .int .i64 x.2), (5, .int .i64 x.1)]) [(0, _)] (fun x => L) (fun x => ms.length - x.1) (0, _) Wkp Wsb ⟨Nat.zero_le _, by dsimp only; omega, by dsimp only; omega, fun _ h => by dsimp only at h; omega⟩ ?_
    rintro ⟨i, lf⟩ ⟨hi, hl0, hl1, hok⟩
    dsimp only at hi hl0 hl1 hok ⊢
    refine GC.seq ?_
    refine GC.seq ?_
    refine GC.region ?_
    refine GL.v Wmv ?_
    refine GL.v Wmv ?_
    refine GL.v Wln ?_
    refine GL.v Wls ?_
    refine GL.nil ?_
    refine GE.seq ?_
    refine GC.ifs (fun h2 => ?_) (fun h2 => ?_)
    · -- FT
      have hil : i < ms.length := by omega
      refine GC.rd_cap (hG.parts i hil) fun hp1 hp2 => ?_
      refine GC.skip ?_
      refine GE.seq ?_
      refine GC.seq ?_
      refine GC.block ?_
      refine GC.seq ?_
      refine GC.region ?_
      refine GL.v Wmv ?_
      refine GL.v Wmv ?_
      refine GL.v Wix ?_
      refine GL.v Wle ?_
      refine GL.v Wmv ?_
      refine GL.callF rfl rfl (szNode_spec _ _ _ _ _ _ _ (by omega) hl0 (by omega)) ?_
      refine GL.v Wag ?_
      refine GL.nil ?_
      refine GE.seq ?_
      refine GC.seq ?_
      refine GC.region ?_
      refine GL.v Wmv ?_
      refine GL.v Wls ?_
      refine GL.nil ?_
      refine GE.seq ?_
      refine GC.ifs (fun h3 => ?_) (fun h3 => ?_)
      · -- FTT
        refine GC.seq ?_
        refine GC.region ?_
        refine GL.v Wag ?_
        refine GL.nil ?_
        refine GE.seq ?_
        refine GC.ret ?_
        refine GE.block_ret ?_
        refine GE.seq_ret ?_
        refine GE.loop_ret ?_
        refine GE.block_ret ?_
        refine GE.seq_ret ?_
        -- returns, path FTT
        refine GE.ret_tmp (L' := L) (.inl rfl) rfl rfl Wsb ?_
        exact ⟨-1, rfl, by omega, by omega, fun h => by omega, rfl⟩
      · -- FTF
        refine GC.skip ?_
        refine GE.block ?_
        refine GE.seq ?_
        refine GC.region ?_
        refine GL.v Wmv ?_
        refine GL.v Wad ?_
        refine GL.v Wag ?_
        refine GL.nil ?_
        -- round of loop 1, path FTF
        split at h3
        · omega
        · rename_i hnn
          simp only [if_neg hnn]
          refine GE.round (i + 1, lf - ms[i].parts.length) ⟨by dsimp only; omega, by dsimp only; omega, by dsimp only; omega, fun j h h' => ?_⟩ (by dsimp only; omega) Wkp Wsb
          by_cases e : j = i
          · subst e; omega
          · exact hok j (by dsimp only at h; omega) h'
    · -- FF
      refine GC.exit ?_
      refine GE.seq_exit ?_
      refine GE.loop_exit ?_
      refine GE.block_exit ?_
      refine GE.seq ?_
      refine GC.seq ?_
      refine GC.region ?_
      refine GL.v Wmv ?_
      refine GL.v Wag ?_
      refine GL.nil ?_
      refine GE.seq ?_
      refine GC.ret ?_
      -- returns, path FF
      refine GE.ret_tmp (L' := L) (.inl rfl) rfl rfl Wsb ?_
      exact ⟨lf, rfl, by omega, by omega, fun _ => ⟨⟨by omega, fun j h => hok j (by omega) h⟩, by omega⟩, rfl⟩
theorem szGraph2_spec (w0 : World) (L : List Asn) (A : Option Addr) (c : Nat) (ms : List NdM) (hG : RdL w0 L A c ms) (left : Int) (l0 : 0 ≤ left) (l1 : left ≤ 1048576) :
    Tr Try.prog 27 #[.agg #[.slice A ms.length c], .int .i64 left] w0 L (fun v L' => ∃ x : Int, v = .int .i64 x ∧ -1 ≤ x ∧ x ≤ left ∧ (0 ≤ x → SizeG ms ∧ ms.length ≤ 1048576) ∧ L' = L) := by
  refine Tr.enter (args := [.agg #[.slice A ms.length c], .int .i64 left]) Try.func27 Try.ntmps27 rfl rfl ?_
  refine GC.seq ?_
  refine GC.region ?_
  refine GL.box_agg rfl rfl ?_; intro g2
  refine GL.v Wag ?_
  refine GL.nil ?_
  refine GE.seq ?_
  refine GC.seq ?_
  refine GC.region ?_
  refine GL.v Wfa ?_
  refine GL.v Wlb ?_
  refine GL.v Wmv ?_
  refine GL.call rfl rfl (szNodeS2_spec _ _ _ _ _ (hG.imp Wim) _ l0 l1) ?_
  rintro _ _ ⟨x, rfl, x1, x2, x3, e⟩
  rw [e]; clear e
  refine GL.v Wag ?_
  refine GL.nil ?_
  refine GE.seq ?_
  refine GC.seq ?_
  refine GC.seq ?_
  refine GC.region ?_
  refine GL.v Wmv ?_
  refine GL.v Wls ?_
  refine GL.nil ?_
  refine GE.seq ?_
  refine GC.ifs (fun h1 => ?_) (fun h1 => ?_)
  · -- T
    refine GC.seq ?_
    refine GC.region ?_
    refine GL.v Wag ?_
    refine GL.nil ?_
    refine GE.seq ?_
    refine GC.ret ?_
    refine GE.seq_ret ?_
    -- returns, path T
    refine GE.ret_tmp (L' := L) (.inl rfl) rfl rfl Wsb ?_
    exact ⟨-1, rfl, by omega, by omega, fun h => by omega, rfl⟩
  · -- F
    refine GC.skip ?_
    refine GE.seq ?_
    refine GC.seq ?_
    refine GC.region ?_
    refine GL.v Wmv ?_
    refine GL.v Wag ?_
    refine GL.nil ?_
    refine GE.seq ?_
    refine GC.ret ?_
    -- returns, path F
    refine GE.ret_tmp (L' := L) (.inl rfl) rfl rfl Wsb ?_
    exact ⟨x, rfl, by omega, by omega, fun h => x3 h, rfl⟩
end SG
