/- Contracts: the laws' marks of lists of lists. -/
import Derived.Test.YtllepoepfkobfaaD26
namespace SG
open Go Go.RowKit Go.Proofs
set_option linter.unusedVariables false
set_option linter.unusedSimpArgs false
set_option maxRecDepth 100000
/-- the mark at which list i begins -/
def kAt (k : Int) (ls : List LiM) (i : Nat) : Int := (ls.take i).foldl (fun s l => s + l.xs.length) k
theorem kAt_zero (k : Int) (ls : List LiM) : kAt k ls 0 = k := by simp [kAt]
theorem kAt_succ (k : Int) {ls : List LiM} {i : Nat} (h : i < ls.length) : kAt k ls (i + 1) = kAt k ls i + ls[i].xs.length := by
  unfold kAt
  rw [List.take_succ_eq_append_getElem h, List.foldl_append]; rfl
theorem kAt_bound {k : Int} {ls : List LiM} (hS : SizeLs ls) : ∀ (i : Nat), i ≤ ls.length → k ≤ kAt k ls i ∧ kAt k ls i ≤ k + 1100000 * i := by
  intro i
  induction i with
  | zero => intro _; rw [kAt_zero]; omega
  | succ i ih =>
    intro h
    have h1 := ih (by omega)
    have h2 := hS.2 i (by omega)
    rw [kAt_succ k (by omega)]
    omega
def LiM.marked (k : Int) (ls : List LiM) (i : Nat) (l : LiM) : LiM := ⟨l.a, l.c, SG.marked (kAt k ls i) l.xs.length⟩
/-- the lists while list i is to be marked next -/
def midLs (k : Int) (ls : List LiM) (i : Nat) : List LiM := ls.mapIdx fun j l => if j < i then LiM.marked k ls j l else l
def markLs (k : Int) (ls : List LiM) : List LiM := midLs k ls ls.length
@[simp] theorem midLs_length (k : Int) (ls : List LiM) (i : Nat) : (midLs k ls i).length = ls.length := by simp [midLs]
@[simp] theorem markLs_length (k : Int) (ls : List LiM) : (markLs k ls).length = ls.length := by simp [markLs]
theorem midLs_get {k : Int} {ls : List LiM} {i j : Nat} (h : j < (midLs k ls i).length) : (midLs k ls i)[j] = if j < i then LiM.marked k ls j (ls[j]'(by simpa using h)) else ls[j]'(by simpa using h) := by simp [midLs]
theorem midLs_zero (k : Int) (ls : List LiM) : midLs k ls 0 = ls := List.ext_getElem (by simp) fun j h1 h2 => by rw [midLs_get, if_neg (by omega)]
theorem midLs_self {k : Int} {ls : List LiM} {i : Nat} (h : i < (midLs k ls i).length) : (midLs k ls i)[i] = ls[i]'(by simpa using h) := by rw [midLs_get, if_neg (by omega)]
theorem midLs_set {k : Int} {ls : List LiM} {i : Nat} (h : i < ls.length) : (midLs k ls i).set i (LiM.marked k ls i ls[i]) = midLs k ls (i + 1) := by
  refine List.ext_getElem (by simp) fun j h1 h2 => ?_
  rw [List.getElem_set, midLs_get, midLs_get]
  by_cases e : i = j
  · subst e; rw [if_pos rfl, if_pos (by omega)]
  · rw [if_neg e]
    by_cases h3 : j < i
    · rw [if_pos h3, if_pos (by omega)]
    · rw [if_neg h3, if_neg (by omega)]
theorem markLs_get {k : Int} {ls : List LiM} {j : Nat} (h : j < (markLs k ls).length) : (markLs k ls)[j] = LiM.marked k ls j (ls[j]'(by simpa using h)) := by
  have hj : j < ls.length := by simpa using h
  have h' : j < (midLs k ls ls.length).length := h
  show (midLs k ls ls.length)[j] = _
  rw [midLs_get, if_pos hj]
theorem row_slE_congr {A : Option Addr} {c : Nat} {ls ms : List LiM} (hl : ls.length = ms.length) (h : ∀ i (h1 : i < ls.length) (h2 : i < ms.length), ls[i].a = ms[i].a ∧ ls[i].c = ms[i].c ∧ ls[i].xs.length = ms[i].xs.length) : row slE A c ls = row slE A c ms := by
  have e : ls.map slE.enc = ms.map slE.enc := by
    refine List.ext_getElem (by simp [hl]) fun i h1 h2 => ?_
    have i1 : i < ls.length := by simpa using h1
    have i2 : i < ms.length := by simpa using h2
    have h3 := h i i1 i2
    simp only [List.getElem_map]
    show (Value.slice (ls[i]'i1).a (ls[i]'i1).xs.length (ls[i]'i1).c).cells.toList = (Value.slice (ms[i]'i2).a (ms[i]'i2).xs.length (ms[i]'i2).c).cells.toList
    rw [h3.1, h3.2.1, h3.2.2]
  have e2 : slE.flat ls = slE.flat ms := by unfold El.flat; first | rw [e] | (simp only [List.flatMap_def]; rw [e])
  have e3 : ls = [] ↔ ms = [] := by rw [← List.length_eq_zero_iff, ← List.length_eq_zero_iff, hl]
  funext k
  unfold row
  rw [e2, hl]
  simp only [e3]
theorem row_mark {A : Option Addr} {c : Nat} (k : Int) (ls : List LiM) : row slE A c ls = row slE A c (markLs k ls) := row_slE_congr (by simp) fun i h1 h2 => by
  rw [markLs_get]
  exact ⟨rfl, rfl, by simp [LiM.marked]⟩
theorem St.rows_out {w0 w : World} {L L1 : List Asn} {ms : List LiM} {i : Nat} (hi : i < ms.length) (q : Pick L (rowsA ms) L1) (hs : St w0 w L) : St w0 w (ms[i].rowA :: rowsA (ms.take i ++ ms.drop (i + 1)) :: L1) := by
  have h1 := (hs.pick q).flat
  have e : ms = ms.take i ++ ms[i] :: ms.drop (i + 1) := by rw [List.getElem_cons_drop, List.take_append_drop]
  rw [e, List.map_append, List.map_cons] at h1
  have p1 : Pick (((ms.take i).map LiM.rowA ++ ms[i].rowA :: (ms.drop (i + 1)).map LiM.rowA) ++ L1) ms[i].rowA (((ms.take i).map LiM.rowA ++ (ms.drop (i + 1)).map LiM.rowA) ++ L1) := Pick.app_left (Pick.app_right .head _)
  have h2 := h1.pick p1
  have h3 : St w0 w (((ms.take i ++ ms.drop (i + 1)).map LiM.rowA) ++ (ms[i].rowA :: L1)) := by
    rw [List.map_append]
    exact h2.back (Pick.app_right .head _)
  have h4 : St w0 w (rowsA (ms.take i ++ ms.drop (i + 1)) :: ms[i].rowA :: L1) := St.fold h3
  exact h4.pick (.tail .head)
theorem St.rows_in {w0 w : World} {L L1 L2 : List Asn} {m : LiM} {xs ys : List LiM} (p : Pick L m.rowA L1) (q : Pick L1 (rowsA (xs ++ ys)) L2) (hs : St w0 w L) : St w0 w (rowsA (xs ++ m :: ys) :: L2) := by
  have h1 := ((hs.pick p).pick (.tail q)).flat
  rw [List.map_append] at h1
  refine St.fold (L' := (xs ++ m :: ys).map LiM.rowA) ?_
  rw [List.map_append, List.map_cons]
  have p2 : Pick (((xs.map LiM.rowA) ++ ys.map LiM.rowA) ++ m.rowA :: L2) m.rowA (((xs.map LiM.rowA) ++ ys.map LiM.rowA) ++ L2) := Pick.app_right .head _
  have h2 := h1.pick p2
  exact h2.back (Pick.app_left (Pick.app_right .head _))
theorem markIntSS_spec (w0 : World) (L : List Asn) (A : Option Addr) (c : Nat) (ls : List LiM) (hS : SizeLs ls) (k : Int) (h0 : 0 ≤ k) (h1 : k ≤ 1000000000000000) :
    Tr Try.prog 84 #[.slice A ls.length c, .int .i64 k] w0 (row slE A c ls :: rowsA ls :: L) (fun v L' => v = .int .i64 (kAt k ls ls.length) ∧ L' = row slE A c (markLs k ls) :: rowsA (markLs k ls) :: L) := by
  have hSl := hS.1
  refine Tr.enter (args := [.slice A ls.length c, .int .i64 k]) Try.func84 Try.ntmps84 rfl rfl ?_
  refine GC.seq ?_
  refine GC.region ?_
  refine GL.v Wag ?_
  refine GL.nil ?_
  refine GE.seq ?_
  refine GC.seq ?_
  refine GC.seq ?_
  refine GC.region ?_
  refine GL.v Wag ?_
  refine GL.nil ?_
  refine GE.seq ?_
  refine GC.block ?_
  -- loop 1: carried slots [1, 5]
  refine GC.loopK (α := Nat) (fun i => i ≤ ls.length) (fun i => [(1, .int .i64 (kAt k ls i)), (5, .int .i64 i)]) [(0, _)] (fun i => row slE A c ls :: rowsA (midLs k ls i) :: L) (fun i => ls.length - i) 0 (by rw [kAt_zero]; exact Wkp) (by rw [midLs_zero]; exact Wsb) (Nat.zero_le _) ?_
  rintro i hi
  have hkb := kAt_bound (k := k) hS i hi
  refine GC.seq ?_
  refine GC.seq ?_
  refine GC.region ?_
  refine GL.v Wmv ?_
  refine GL.v Wmv ?_
  refine GL.v Wln ?_
  refine GL.v Wls ?_
  refine GL.nil ?_
  refine GE.seq ?_
  refine GC.ifs (fun h1 => ?_) (fun h1 => ?_)
  · -- T
    have hil : i < ls.length := by omega
    have him : i < (midLs k ls i).length := by simpa using hil
    have hSi := hS.2 i hil
    have hks := kAt_succ k hil
    refine GC.skip ?_
    refine GE.seq ?_
    refine GC.seq ?_
    refine GC.block ?_
    refine GC.region ?_
    refine GL.v Wmv ?_
    refine GL.v Wmv ?_
    refine GL.v Wix ?_
    refine GL.v Wle ?_
    refine GL.v Wmv ?_
    refine GL.state (fun w hs => St.rows_out him Wpk hs) ?_
    rw [midLs_self]
    refine GL.callP rfl rfl Wpk (markIntS_spec _ _ _ _ ls[i].xs _ Wom Wom Wom) ?_
    rintro _ _ ⟨rfl, rfl⟩
    rw [← hks]
    refine GL.v Wag ?_
    refine GL.nil ?_
    refine GE.block ?_
    refine GE.seq ?_
    refine GC.region ?_
    refine GL.v Wmv ?_
    refine GL.v Wad ?_
    refine GL.v Wag ?_
    refine GL.nil ?_
    -- round of loop 1, path T
    refine GE.state (fun w hs => St.rows_in (m := LiM.marked k ls i ls[i]) (xs := (midLs k ls i).take i) (ys := (midLs k ls i).drop (i + 1)) Wpk Wpk hs) ?_
    have eq : (midLs k ls i).take i ++ LiM.marked k ls i ls[i] :: (midLs k ls i).drop (i + 1) = midLs k ls (i + 1) := by rw [← midLs_set hil, List.set_eq_take_append_cons_drop]; simp [hil]
    rw [eq]
    refine GE.round (i + 1) (by omega) (by omega) Wkp Wsb
  · -- F
    have hie : i = ls.length := by omega
    subst hie
    rw [show midLs k ls ls.length = markLs k ls from rfl, row_mark k ls]
    refine GC.exit ?_
    refine GE.seq_exit ?_
    refine GE.loop_exit ?_
    refine GE.block_exit ?_
    refine GE.seq ?_
    refine GC.seq ?_
    refine GC.region ?_
    refine GL.v Wmv ?_
    refine GL.v Wag ?_
    refine GL.nil ?_
    refine GE.seq ?_
    refine GC.ret ?_
    -- returns, path F
    refine GE.ret_tmp (L' := row slE A c (markLs k ls) :: rowsA (markLs k ls) :: L) (.inl rfl) rfl rfl Wsb ?_
    exact ⟨rfl, rfl⟩
theorem heldIntSS_spec (w0 : World) (L : List Asn) (A : Option Addr) (c n : Nat) (ls : List LiM) (k : Int) (hG : RdLs w0 L A c (markLs k ls)) (hS : SizeLs ls) (hn : n = ls.length) (h0 : 0 ≤ k) (h1 : k ≤ 1000000000000000) :
    Tr Try.prog 85 #[.slice A n c, .int .i64 k] w0 L (fun v L' => v = .int .i64 (kAt k ls ls.length) ∧ L' = L) := by
  subst hn
  have hSl := hS.1
  have hN := hG.nodes
  have hml := markLs_length k ls
  refine Tr.enter (args := [.slice A ls.length c, .int .i64 k]) Try.func85 Try.ntmps85 rfl rfl ?_
  refine GC.seq ?_
  refine GC.region ?_
  refine GL.v Wag ?_
  refine GL.nil ?_
  refine GE.seq ?_
  refine GC.seq ?_
  refine GC.seq ?_
  refine GC.region ?_
  refine GL.v Wag ?_
  refine GL.nil ?_
  refine GE.seq ?_
  refine GC.block ?_
  -- loop 1: carried slots [1, 5]
  refine GC.loopK (α := Nat) (fun i => i ≤ ls.length) (fun i => [(1, .int .i64 (kAt k ls i)), (5, .int .i64 i)]) [(0, _)] (fun i => L) (fun i => ls.length - i) 0 (by rw [kAt_zero]; exact Wkp) Wsb (Nat.zero_le _) ?_
  rintro i hi
  have hkb := kAt_bound (k := k) hS i hi
  refine GC.seq ?_
  refine GC.seq ?_
  refine GC.region ?_
  refine GL.v Wmv ?_
  refine GL.v Wmv ?_
  refine GL.v Wln ?_
  refine GL.v Wls ?_
  refine GL.nil ?_
  refine GE.seq ?_
  refine GC.ifs (fun h1 => ?_) (fun h1 => ?_)
  · -- T
    have hil : i < ls.length := by omega
    have hP := hG.lists i (by omega)
    rw [markLs_get] at hP
    have hP2 : Rd w0 L intE ls[i].a ls[i].c (marked (kAt k ls i) ls[i].xs.length) := hP
    have hSi := hS.2 i hil
    have hks := kAt_succ k hil
    refine GC.skip ?_
    refine GE.seq ?_
    refine GC.seq ?_
    refine GC.block ?_
    refine GC.seq ?_
    refine GC.region ?_
    refine GL.v Wmv ?_
    refine GL.v Wmv ?_
    refine GL.v Wix ?_
    refine GL.v Wle ?_
    refine GL.v Wmv ?_
    rw [markLs_get, show slE.val (LiM.marked k ls i ls[i]) = .slice ls[i].a ls[i].xs.length ls[i].c by simp [slE, LiM.marked]]
    refine GL.call rfl rfl (heldIntS_spec _ _ ls[i].a ls[i].c (kAt k ls i) ls[i].xs.length (hP2.imp Wim) Wom Wom Wom) ?_
    rintro _ _ ⟨rfl, rfl⟩
    rw [← hks]
    refine GL.v Wag ?_
    refine GL.nil ?_
    refine GE.seq ?_
    refine GC.seq ?_
    refine GC.region ?_
    refine GL.v Wmv ?_
    refine GL.v Wls ?_
    refine GL.nil ?_
    refine GE.seq ?_
    refine GC.ifs (fun h2 => ?_) (fun h2 => ?_)
    · -- TT
      omega
    · -- TF
      refine GC.skip ?_
      refine GE.block ?_
      refine GE.seq ?_
      refine GC.region ?_
      refine GL.v Wmv ?_
      refine GL.v Wad ?_
      refine GL.v Wag ?_
      refine GL.nil ?_
      -- round of loop 1, path TF
      refine GE.round (i + 1) (by omega) (by omega) Wkp Wsb
  · -- F
    refine GC.exit ?_
    refine GE.seq_exit ?_
    refine GE.loop_exit ?_
    refine GE.block_exit ?_
    refine GE.seq ?_
    refine GC.seq ?_
    refine GC.region ?_
    refine GL.v Wmv ?_
    refine GL.v Wag ?_
    refine GL.nil ?_
    refine GE.seq ?_
    refine GC.ret ?_
    -- returns, path F
    refine GE.ret_tmp (L' := L) (.inl rfl) rfl rfl Wsb ?_
    exact ⟨by rw [show i = ls.length by omega], rfl⟩
end SG
