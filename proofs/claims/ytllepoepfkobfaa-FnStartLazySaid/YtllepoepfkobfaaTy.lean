/- The types of this translation: closed facts. -/
import Derived.Test.YtllepoepfkobfaaSh
import Derived.Test.YtllepoepfkobfaaPA
import Derived.Test.YtllepoepfkobfaaProg
import Derived.KernelRfl
namespace SG
open Go Go.RowKit Go.Proofs

/-- a list in memory: its address, its capacity, its numbers -/
structure LiM where
  a : Option Addr
  c : Nat
  xs : List Int
/-- a formula in memory -/
structure FoM where
  a : Option Addr
  c : Nat
  parts : List Part
/-- a node in memory -/
structure NdM where
  kind : Int
  a : Option Addr
  c : Nat
  parts : List Part
def NdM.nd (m : NdM) : Nd := ⟨m.kind, m.parts⟩

def intE : El Int := { ty := 3, val := fun x => .int .i64 x, size := 1, agg := false, hsize := fun _ => rfl, hpos := by decide, hone := fun _ u hu => by simp [Value.cells] at hu; subst hu; rfl, hagg := fun h => by simp at h, hsc := fun _ _ => rfl }
def boolE : El Bool := { ty := 4, val := fun x => .bool x, size := 1, agg := false, hsize := fun _ => rfl, hpos := by decide, hone := fun _ u hu => by simp [Value.cells] at hu; subst hu; rfl, hagg := fun h => by simp at h, hsc := fun _ _ => rfl }
def byteE : El Int := { ty := 5, val := fun x => .int .u8 x, size := 1, agg := false, hsize := fun _ => rfl, hpos := by decide, hone := fun _ u hu => by simp [Value.cells] at hu; subst hu; rfl, hagg := fun h => by simp at h, hsc := fun _ _ => rfl }
def Part.val (p : Part) : Value := .agg #[.int .i64 p.kind, .int .i64 p.a, .int .i64 p.b, .int .i64 p.c, .int .i64 p.n]
def partE : El Part := { ty := 128, val := Part.val, size := 5, agg := true, hsize := fun _ => rfl, hpos := by decide, hone := fun _ u hu => by simp [Value.cells, Part.val] at hu; rcases hu with rfl | rfl | rfl | rfl | rfl <;> rfl, hagg := fun _ _ => rfl, hsc := fun h => by simp at h }
def nodeE : El NdM := { ty := 71, val := fun p => .agg #[.int .i64 p.kind, .slice p.a p.parts.length p.c], size := 2, agg := true, hsize := fun _ => rfl, hpos := by decide, hone := fun _ u hu => by simp [Value.cells] at hu; rcases hu with rfl | rfl <;> rfl, hagg := fun _ _ => rfl, hsc := fun h => by simp at h }
def formE : El FoM := { ty := 69, val := fun p => .agg #[.slice p.a p.parts.length p.c], size := 1, agg := true, hsize := fun _ => rfl, hpos := by decide, hone := fun _ u hu => by simp [Value.cells] at hu; subst hu; rfl, hagg := fun _ _ => rfl, hsc := fun h => by simp at h }
def slE : El LiM := { ty := 47, val := fun p => .slice p.a p.xs.length p.c, size := 1, agg := false, hsize := fun _ => rfl, hpos := by decide, hone := fun _ u hu => by simp [Value.cells] at hu; subst hu; rfl, hagg := fun h => by simp at h, hsc := fun _ _ => rfl }
def ptrE : El (Option Addr) := { ty := 171, val := fun p => .pointer p, size := 1, agg := false, hsize := fun _ => rfl, hpos := by decide, hone := fun _ u hu => by simp [Value.cells] at hu; subst hu; rfl, hagg := fun h => by simp at h, hsc := fun _ _ => rfl }
def Act3.val (p : Act3) : Value := .agg #[.int .i64 p.kind, .int .i64 p.node, .int .i64 p.value]
def actE : El Act3 := { ty := 45, val := Act3.val, size := 3, agg := true, hsize := fun _ => rfl, hpos := by decide, hone := fun _ u hu => by simp [Value.cells, Act3.val] at hu; rcases hu with rfl | rfl | rfl <;> rfl, hagg := fun _ _ => rfl, hsc := fun h => by simp at h }

instance : TyOk Try.prog 3 false 1 [.int .i64 0] := ⟨by kernel_rfl, by kernel_rfl⟩
instance : IntTy Try.prog 3 .i64 := ⟨by kernel_rfl⟩
instance : TyOk Try.prog 4 false 1 [.bool false] := ⟨by kernel_rfl, by kernel_rfl⟩
instance : BoolTy Try.prog 4 := ⟨by kernel_rfl⟩
instance : TyOk Try.prog 5 false 1 [.int .u8 0] := ⟨by kernel_rfl, by kernel_rfl⟩
instance : IntTy Try.prog 5 .u8 := ⟨by kernel_rfl⟩
instance : TyOk Try.prog 171 false 1 [.pointer none] := ⟨by kernel_rfl, by kernel_rfl⟩
instance : TyOk Try.prog 47 false 1 [.slice none 0 0] := ⟨by kernel_rfl, by kernel_rfl⟩
instance : TyOk Try.prog 89 false 1 [.slice none 0 0] := ⟨by kernel_rfl, by kernel_rfl⟩
instance : TyOk Try.prog 22 false 1 [.slice none 0 0] := ⟨by kernel_rfl, by kernel_rfl⟩
instance : TyOk Try.prog 60 false 1 [.slice none 0 0] := ⟨by kernel_rfl, by kernel_rfl⟩
instance : TyOk Try.prog 67 false 1 [.slice none 0 0] := ⟨by kernel_rfl, by kernel_rfl⟩
instance : TyOk Try.prog 23 false 1 [.slice none 0 0] := ⟨by kernel_rfl, by kernel_rfl⟩
instance : TyOk Try.prog 26 false 1 [.slice none 0 0] := ⟨by kernel_rfl, by kernel_rfl⟩
instance : TyOk Try.prog 76 false 1 [.pointer none] := ⟨by kernel_rfl, by kernel_rfl⟩
instance : TyOk Try.prog 128 true 5 [.int .i64 0, .int .i64 0, .int .i64 0, .int .i64 0, .int .i64 0] := ⟨by kernel_rfl, by kernel_rfl⟩
instance : TyOk Try.prog 71 true 2 [.int .i64 0, .slice none 0 0] := ⟨by kernel_rfl, by kernel_rfl⟩
instance : TyOk Try.prog 69 true 1 [.slice none 0 0] := ⟨by kernel_rfl, by kernel_rfl⟩
instance : TyOk Try.prog 25 true 1 [.slice none 0 0] := ⟨by kernel_rfl, by kernel_rfl⟩
instance : TyOk Try.prog 45 true 3 [.int .i64 0, .int .i64 0, .int .i64 0] := ⟨by kernel_rfl, by kernel_rfl⟩
instance : TyOk Try.prog 62 true 3 [.slice none 0 0, .slice none 0 0, .slice none 0 0] := ⟨by kernel_rfl, by kernel_rfl⟩
instance : TyOk Try.prog 107 true 2 [.slice none 0 0, .int .i64 0] := ⟨by kernel_rfl, by kernel_rfl⟩

instance : SlOk Try.prog 47 intE 8 0 := ⟨by kernel_rfl, by kernel_rfl, inferInstanceAs (TyOk Try.prog 3 false 1 [.int .i64 0])⟩
instance : SlOk Try.prog 89 boolE 1 false := ⟨by kernel_rfl, by kernel_rfl, inferInstanceAs (TyOk Try.prog 4 false 1 [.bool false])⟩
instance : SlOk Try.prog 22 byteE 1 0 := ⟨by kernel_rfl, by kernel_rfl, inferInstanceAs (TyOk Try.prog 5 false 1 [.int .u8 0])⟩
instance : SlOk Try.prog 67 partE 40 ⟨0, 0, 0, 0, 0⟩ := ⟨by kernel_rfl, by kernel_rfl, inferInstanceAs (TyOk Try.prog 128 true 5 [.int .i64 0, .int .i64 0, .int .i64 0, .int .i64 0, .int .i64 0])⟩
instance : SlOk Try.prog 23 nodeE 32 ⟨0, none, 0, []⟩ := ⟨by kernel_rfl, by kernel_rfl, inferInstanceAs (TyOk Try.prog 71 true 2 [.int .i64 0, .slice none 0 0])⟩
instance : SlOk Try.prog 60 slE 24 ⟨none, 0, []⟩ := ⟨by kernel_rfl, by kernel_rfl, inferInstanceAs (TyOk Try.prog 47 false 1 [.slice none 0 0])⟩
instance : SlOk Try.prog 26 actE 24 ⟨0, 0, 0⟩ := ⟨by kernel_rfl, by kernel_rfl, inferInstanceAs (TyOk Try.prog 45 true 3 [.int .i64 0, .int .i64 0, .int .i64 0])⟩
instance : SlTy Try.prog 47 := ⟨3, by kernel_rfl⟩
instance : SlTy Try.prog 89 := ⟨4, by kernel_rfl⟩
instance : SlTy Try.prog 22 := ⟨5, by kernel_rfl⟩
instance : SlTy Try.prog 67 := ⟨128, by kernel_rfl⟩
instance : SlTy Try.prog 23 := ⟨71, by kernel_rfl⟩
instance : SlTy Try.prog 60 := ⟨47, by kernel_rfl⟩
instance : SlTy Try.prog 26 := ⟨45, by kernel_rfl⟩

instance : FldOk Try.prog 128 0 0 := ⟨fun _ _ => by kernel_rfl⟩
instance : FldOk Try.prog 128 1 1 := ⟨fun _ _ => by kernel_rfl⟩
instance : FldOk Try.prog 128 2 2 := ⟨fun _ _ => by kernel_rfl⟩
instance : FldOk Try.prog 128 3 3 := ⟨fun _ _ => by kernel_rfl⟩
instance : FldOk Try.prog 128 4 4 := ⟨fun _ _ => by kernel_rfl⟩
instance : FldOk Try.prog 69 0 0 := ⟨fun _ _ => by kernel_rfl⟩
instance : FldOk Try.prog 71 0 0 := ⟨fun _ _ => by kernel_rfl⟩
instance : FldOk Try.prog 71 1 1 := ⟨fun _ _ => by kernel_rfl⟩
instance : FldOk Try.prog 25 0 0 := ⟨fun _ _ => by kernel_rfl⟩
instance : FldOk Try.prog 107 0 0 := ⟨fun _ _ => by kernel_rfl⟩
instance : FldOk Try.prog 107 1 1 := ⟨fun _ _ => by kernel_rfl⟩
instance : FldOk Try.prog 45 0 0 := ⟨fun _ _ => by kernel_rfl⟩
instance : FldOk Try.prog 45 1 1 := ⟨fun _ _ => by kernel_rfl⟩
instance : FldOk Try.prog 45 2 2 := ⟨fun _ _ => by kernel_rfl⟩
instance : FldOk Try.prog 62 0 0 := ⟨fun _ _ => by kernel_rfl⟩
instance : FldOk Try.prog 62 1 1 := ⟨fun _ _ => by kernel_rfl⟩
instance : FldOk Try.prog 62 2 2 := ⟨fun _ _ => by kernel_rfl⟩
def lpartE : El Part := { ty := 164, val := Part.val, size := 5, agg := true, hsize := fun _ => rfl, hpos := by decide, hone := fun _ u hu => by simp [Value.cells, Part.val] at hu; rcases hu with rfl | rfl | rfl | rfl | rfl <;> rfl, hagg := fun _ _ => rfl, hsc := fun h => by simp at h }
def lnodeE : El NdM := { ty := 115, val := fun p => .agg #[.int .i64 p.kind, .slice p.a p.parts.length p.c], size := 2, agg := true, hsize := fun _ => rfl, hpos := by decide, hone := fun _ u hu => by simp [Value.cells] at hu; rcases hu with rfl | rfl <;> rfl, hagg := fun _ _ => rfl, hsc := fun h => by simp at h }
def lactE : El Act3 := { ty := 84, val := Act3.val, size := 3, agg := true, hsize := fun _ => rfl, hpos := by decide, hone := fun _ u hu => by simp [Value.cells, Act3.val] at hu; rcases hu with rfl | rfl | rfl <;> rfl, hagg := fun _ _ => rfl, hsc := fun h => by simp at h }
instance : TyOk Try.prog 164 true 5 [.int .i64 0, .int .i64 0, .int .i64 0, .int .i64 0, .int .i64 0] := ⟨by kernel_rfl, by kernel_rfl⟩
instance : TyOk Try.prog 115 true 2 [.int .i64 0, .slice none 0 0] := ⟨by kernel_rfl, by kernel_rfl⟩
instance : TyOk Try.prog 113 true 1 [.slice none 0 0] := ⟨by kernel_rfl, by kernel_rfl⟩
instance : TyOk Try.prog 33 true 1 [.slice none 0 0] := ⟨by kernel_rfl, by kernel_rfl⟩
instance : TyOk Try.prog 84 true 3 [.int .i64 0, .int .i64 0, .int .i64 0] := ⟨by kernel_rfl, by kernel_rfl⟩
instance : TyOk Try.prog 111 false 1 [.slice none 0 0] := ⟨by kernel_rfl, by kernel_rfl⟩
instance : TyOk Try.prog 31 false 1 [.slice none 0 0] := ⟨by kernel_rfl, by kernel_rfl⟩
instance : TyOk Try.prog 34 false 1 [.slice none 0 0] := ⟨by kernel_rfl, by kernel_rfl⟩
instance : SlOk Try.prog 111 lpartE 40 ⟨0, 0, 0, 0, 0⟩ := ⟨by kernel_rfl, by kernel_rfl, inferInstanceAs (TyOk Try.prog 164 true 5 [.int .i64 0, .int .i64 0, .int .i64 0, .int .i64 0, .int .i64 0])⟩
instance : SlOk Try.prog 31 lnodeE 32 ⟨0, none, 0, []⟩ := ⟨by kernel_rfl, by kernel_rfl, inferInstanceAs (TyOk Try.prog 115 true 2 [.int .i64 0, .slice none 0 0])⟩
instance : SlOk Try.prog 34 lactE 24 ⟨0, 0, 0⟩ := ⟨by kernel_rfl, by kernel_rfl, inferInstanceAs (TyOk Try.prog 84 true 3 [.int .i64 0, .int .i64 0, .int .i64 0])⟩
instance : SlTy Try.prog 111 := ⟨164, by kernel_rfl⟩
instance : SlTy Try.prog 31 := ⟨115, by kernel_rfl⟩
instance : SlTy Try.prog 34 := ⟨84, by kernel_rfl⟩
instance : FldOk Try.prog 164 0 0 := ⟨fun _ _ => by kernel_rfl⟩
instance : FldOk Try.prog 164 1 1 := ⟨fun _ _ => by kernel_rfl⟩
instance : FldOk Try.prog 164 2 2 := ⟨fun _ _ => by kernel_rfl⟩
instance : FldOk Try.prog 164 3 3 := ⟨fun _ _ => by kernel_rfl⟩
instance : FldOk Try.prog 164 4 4 := ⟨fun _ _ => by kernel_rfl⟩
instance : FldOk Try.prog 115 0 0 := ⟨fun _ _ => by kernel_rfl⟩
instance : FldOk Try.prog 115 1 1 := ⟨fun _ _ => by kernel_rfl⟩
instance : FldOk Try.prog 113 0 0 := ⟨fun _ _ => by kernel_rfl⟩
instance : FldOk Try.prog 33 0 0 := ⟨fun _ _ => by kernel_rfl⟩
instance : FldOk Try.prog 84 0 0 := ⟨fun _ _ => by kernel_rfl⟩
instance : FldOk Try.prog 84 1 1 := ⟨fun _ _ => by kernel_rfl⟩
instance : FldOk Try.prog 84 2 2 := ⟨fun _ _ => by kernel_rfl⟩
theorem mixed : Try.prog.follows .mixedOrders = true := by kernel_rfl

theorem bsInt0 : BsOk Try.prog 47 0 [] intE [] := ⟨fun w => by kernel_rfl⟩
theorem bsInt1 (a : Int) : BsOk Try.prog 47 1 [(0, .int .i64 a)] intE [a] := ⟨fun w => by kernel_rfl⟩
theorem bsInt2 (a b : Int) : BsOk Try.prog 47 2 [(0, .int .i64 a), (1, .int .i64 b)] intE [a, b] := ⟨fun w => by kernel_rfl⟩
theorem bsInt3 (a b c : Int) : BsOk Try.prog 47 3 [(0, .int .i64 a), (1, .int .i64 b), (2, .int .i64 c)] intE [a, b, c] := ⟨fun w => by kernel_rfl⟩
theorem bsInt4 (a b c d : Int) : BsOk Try.prog 47 4 [(0, .int .i64 a), (1, .int .i64 b), (2, .int .i64 c), (3, .int .i64 d)] intE [a, b, c, d] := ⟨fun w => by kernel_rfl⟩
theorem bsInt5 (a b c d e : Int) : BsOk Try.prog 47 5 [(0, .int .i64 a), (1, .int .i64 b), (2, .int .i64 c), (3, .int .i64 d), (4, .int .i64 e)] intE [a, b, c, d, e] := ⟨fun w => by kernel_rfl⟩
theorem bsInt6 (a b c d e f : Int) : BsOk Try.prog 47 6 [(0, .int .i64 a), (1, .int .i64 b), (2, .int .i64 c), (3, .int .i64 d), (4, .int .i64 e), (5, .int .i64 f)] intE [a, b, c, d, e, f] := ⟨fun w => by kernel_rfl⟩
theorem bsInt7 (a b c d e f g : Int) : BsOk Try.prog 47 7 [(0, .int .i64 a), (1, .int .i64 b), (2, .int .i64 c), (3, .int .i64 d), (4, .int .i64 e), (5, .int .i64 f), (6, .int .i64 g)] intE [a, b, c, d, e, f, g] := ⟨fun w => by kernel_rfl⟩
theorem bsInt8 (a b c d e f g h : Int) : BsOk Try.prog 47 8 [(0, .int .i64 a), (1, .int .i64 b), (2, .int .i64 c), (3, .int .i64 d), (4, .int .i64 e), (5, .int .i64 f), (6, .int .i64 g), (7, .int .i64 h)] intE [a, b, c, d, e, f, g, h] := ⟨fun w => by kernel_rfl⟩
theorem bsInt9 (a b c d e f g h i : Int) : BsOk Try.prog 47 9 [(0, .int .i64 a), (1, .int .i64 b), (2, .int .i64 c), (3, .int .i64 d), (4, .int .i64 e), (5, .int .i64 f), (6, .int .i64 g), (7, .int .i64 h), (8, .int .i64 i)] intE [a, b, c, d, e, f, g, h, i] := ⟨fun w => by kernel_rfl⟩
theorem bsInt10 (a b c d e f g h i j : Int) : BsOk Try.prog 47 10 [(0, .int .i64 a), (1, .int .i64 b), (2, .int .i64 c), (3, .int .i64 d), (4, .int .i64 e), (5, .int .i64 f), (6, .int .i64 g), (7, .int .i64 h), (8, .int .i64 i), (9, .int .i64 j)] intE [a, b, c, d, e, f, g, h, i, j] := ⟨fun w => by kernel_rfl⟩
theorem bsPart0 : BsOk Try.prog 67 0 [] partE [] := ⟨fun w => by kernel_rfl⟩
theorem bsPart1 (p : Part) : BsOk Try.prog 67 1 [(0, .agg #[.int .i64 p.kind, .int .i64 p.a, .int .i64 p.b, .int .i64 p.c, .int .i64 p.n])] partE [p] := ⟨fun w => by kernel_rfl⟩
theorem bdPart (p : Part) : BdOk Try.prog 128 [(0, .int .i64 p.kind), (1, .int .i64 p.a), (2, .int .i64 p.b), (3, .int .i64 p.c), (4, .int .i64 p.n)] p.val := ⟨fun w => by kernel_rfl⟩
theorem bdReader (A : Option Addr) (n c : Nat) : BdOk Try.prog 107 [(0, .slice A n c)] (.agg #[.slice A n c, .int .i64 0]) := ⟨fun w => by kernel_rfl⟩
theorem bdPart4 (k a b c : Int) : BdOk Try.prog 128 [(0, .int .i64 k), (1, .int .i64 a), (2, .int .i64 b), (3, .int .i64 c)] (Part.val ⟨k, a, b, c, 0⟩) := ⟨fun w => by kernel_rfl⟩
theorem bdForm (A : Option Addr) (n c : Nat) : BdOk Try.prog 69 [(0, .slice A n c)] (.agg #[.slice A n c]) := ⟨fun w => by kernel_rfl⟩
theorem bdGraph0 : BdOk Try.prog 25 [] (.agg #[.slice none 0 0]) := ⟨fun w => by kernel_rfl⟩
theorem bdGraph (A : Option Addr) (n c : Nat) : BdOk Try.prog 25 [(0, .slice A n c)] (.agg #[.slice A n c]) := ⟨fun w => by kernel_rfl⟩
theorem bdNode1 (k : Int) : BdOk Try.prog 71 [(0, .int .i64 k)] (.agg #[.int .i64 k, .slice none 0 0]) := ⟨fun w => by kernel_rfl⟩
theorem bdNode2 (k : Int) (A : Option Addr) (n c : Nat) : BdOk Try.prog 71 [(0, .int .i64 k), (1, .agg #[.slice A n c])] (.agg #[.int .i64 k, .slice A n c]) := ⟨fun w => by kernel_rfl⟩
theorem bsNode1 (m : NdM) : BsOk Try.prog 23 1 [(0, .agg #[.int .i64 m.kind, .slice m.a m.parts.length m.c])] nodeE [m] := ⟨fun w => by kernel_rfl⟩
theorem bdForm0 : BdOk Try.prog 69 [] (.agg #[.slice none 0 0]) := ⟨fun w => by kernel_rfl⟩
instance : FnOk Try.prog 3 := FnOk.of Try.func3 (by kernel_rfl) (by kernel_rfl)
instance : FnOk Try.prog 4 := FnOk.of Try.func4 (by kernel_rfl) (by kernel_rfl)
instance : FnOk Try.prog 5 := FnOk.of Try.func5 (by kernel_rfl) (by kernel_rfl)
instance : FnOk Try.prog 6 := FnOk.of Try.func6 (by kernel_rfl) (by kernel_rfl)
instance : FnOk Try.prog 7 := FnOk.of Try.func7 (by kernel_rfl) (by kernel_rfl)
instance : FnOk Try.prog 8 := FnOk.of Try.func8 (by kernel_rfl) (by kernel_rfl)
instance : FnOk Try.prog 9 := FnOk.of Try.func9 (by kernel_rfl) (by kernel_rfl)
instance : FnOk Try.prog 10 := FnOk.of Try.func10 (by kernel_rfl) (by kernel_rfl)
instance : FnOk Try.prog 11 := FnOk.of Try.func11 (by kernel_rfl) (by kernel_rfl)
instance : FnOk Try.prog 12 := FnOk.of Try.func12 (by kernel_rfl) (by kernel_rfl)
instance : FnOk Try.prog 13 := FnOk.of Try.func13 (by kernel_rfl) (by kernel_rfl)
instance : FnOk Try.prog 14 := FnOk.of Try.func14 (by kernel_rfl) (by kernel_rfl)
instance : FnOk Try.prog 15 := FnOk.of Try.func15 (by kernel_rfl) (by kernel_rfl)
instance : FnOk Try.prog 16 := FnOk.of Try.func16 (by kernel_rfl) (by kernel_rfl)
instance : FnOk Try.prog 17 := FnOk.of Try.func17 (by kernel_rfl) (by kernel_rfl)
instance : FnOk Try.prog 18 := FnOk.of Try.func18 (by kernel_rfl) (by kernel_rfl)
instance : FnOk Try.prog 19 := FnOk.of Try.func19 (by kernel_rfl) (by kernel_rfl)
instance : FnOk Try.prog 20 := FnOk.of Try.func20 (by kernel_rfl) (by kernel_rfl)
instance : FnOk Try.prog 21 := FnOk.of Try.func21 (by kernel_rfl) (by kernel_rfl)
instance : FnOk Try.prog 22 := FnOk.of Try.func22 (by kernel_rfl) (by kernel_rfl)
instance : FnOk Try.prog 23 := FnOk.of Try.func23 (by kernel_rfl) (by kernel_rfl)
instance : FnOk Try.prog 24 := FnOk.of Try.func24 (by kernel_rfl) (by kernel_rfl)
instance : FnOk Try.prog 25 := FnOk.of Try.func25 (by kernel_rfl) (by kernel_rfl)
instance : FnOk Try.prog 26 := FnOk.of Try.func26 (by kernel_rfl) (by kernel_rfl)
instance : FnOk Try.prog 27 := FnOk.of Try.func27 (by kernel_rfl) (by kernel_rfl)
instance : FnOk Try.prog 28 := FnOk.of Try.func28 (by kernel_rfl) (by kernel_rfl)
instance : FnOk Try.prog 29 := FnOk.of Try.func29 (by kernel_rfl) (by kernel_rfl)
instance : FnOk Try.prog 30 := FnOk.of Try.func30 (by kernel_rfl) (by kernel_rfl)
instance : FnOk Try.prog 31 := FnOk.of Try.func31 (by kernel_rfl) (by kernel_rfl)
instance : FnOk Try.prog 32 := FnOk.of Try.func32 (by kernel_rfl) (by kernel_rfl)
instance : FnOk Try.prog 33 := FnOk.of Try.func33 (by kernel_rfl) (by kernel_rfl)
instance : FnOk Try.prog 34 := FnOk.of Try.func34 (by kernel_rfl) (by kernel_rfl)
instance : FnOk Try.prog 35 := FnOk.of Try.func35 (by kernel_rfl) (by kernel_rfl)
instance : FnOk Try.prog 36 := FnOk.of Try.func36 (by kernel_rfl) (by kernel_rfl)
instance : FnOk Try.prog 37 := FnOk.of Try.func37 (by kernel_rfl) (by kernel_rfl)
instance : FnOk Try.prog 38 := FnOk.of Try.func38 (by kernel_rfl) (by kernel_rfl)
instance : FnOk Try.prog 39 := FnOk.of Try.func39 (by kernel_rfl) (by kernel_rfl)
instance : FnOk Try.prog 40 := FnOk.of Try.func40 (by kernel_rfl) (by kernel_rfl)
instance : FnOk Try.prog 41 := FnOk.of Try.func41 (by kernel_rfl) (by kernel_rfl)
instance : FnOk Try.prog 42 := FnOk.of Try.func42 (by kernel_rfl) (by kernel_rfl)
instance : FnOk Try.prog 43 := FnOk.of Try.func43 (by kernel_rfl) (by kernel_rfl)
instance : FnOk Try.prog 44 := FnOk.of Try.func44 (by kernel_rfl) (by kernel_rfl)
instance : FnOk Try.prog 45 := FnOk.of Try.func45 (by kernel_rfl) (by kernel_rfl)
instance : FnOk Try.prog 46 := FnOk.of Try.func46 (by kernel_rfl) (by kernel_rfl)
instance : FnOk Try.prog 47 := FnOk.of Try.func47 (by kernel_rfl) (by kernel_rfl)
instance : FnOk Try.prog 48 := FnOk.of Try.func48 (by kernel_rfl) (by kernel_rfl)
instance : FnOk Try.prog 49 := FnOk.of Try.func49 (by kernel_rfl) (by kernel_rfl)
instance : FnOk Try.prog 50 := FnOk.of Try.func50 (by kernel_rfl) (by kernel_rfl)
instance : FnOk Try.prog 51 := FnOk.of Try.func51 (by kernel_rfl) (by kernel_rfl)
instance : FnOk Try.prog 52 := FnOk.of Try.func52 (by kernel_rfl) (by kernel_rfl)
instance : FnOk Try.prog 53 := FnOk.of Try.func53 (by kernel_rfl) (by kernel_rfl)
instance : FnOk Try.prog 54 := FnOk.of Try.func54 (by kernel_rfl) (by kernel_rfl)
instance : FnOk Try.prog 55 := FnOk.of Try.func55 (by kernel_rfl) (by kernel_rfl)
instance : FnOk Try.prog 56 := FnOk.of Try.func56 (by kernel_rfl) (by kernel_rfl)
instance : FnOk Try.prog 57 := FnOk.of Try.func57 (by kernel_rfl) (by kernel_rfl)
instance : FnOk Try.prog 58 := FnOk.of Try.func58 (by kernel_rfl) (by kernel_rfl)
instance : FnOk Try.prog 59 := FnOk.of Try.func59 (by kernel_rfl) (by kernel_rfl)
instance : FnOk Try.prog 60 := FnOk.of Try.func60 (by kernel_rfl) (by kernel_rfl)
instance : FnOk Try.prog 61 := FnOk.of Try.func61 (by kernel_rfl) (by kernel_rfl)
instance : FnOk Try.prog 62 := FnOk.of Try.func62 (by kernel_rfl) (by kernel_rfl)
instance : FnOk Try.prog 63 := FnOk.of Try.func63 (by kernel_rfl) (by kernel_rfl)
instance : FnOk Try.prog 64 := FnOk.of Try.func64 (by kernel_rfl) (by kernel_rfl)
instance : FnOk Try.prog 65 := FnOk.of Try.func65 (by kernel_rfl) (by kernel_rfl)
instance : FnOk Try.prog 66 := FnOk.of Try.func66 (by kernel_rfl) (by kernel_rfl)
instance : FnOk Try.prog 66 := FnOk.of Try.func66 (by kernel_rfl) (by kernel_rfl)
instance : FnOk Try.prog 67 := FnOk.of Try.func67 (by kernel_rfl) (by kernel_rfl)
instance : FnOk Try.prog 68 := FnOk.of Try.func68 (by kernel_rfl) (by kernel_rfl)
instance : FnOk Try.prog 69 := FnOk.of Try.func69 (by kernel_rfl) (by kernel_rfl)
instance : FnOk Try.prog 70 := FnOk.of Try.func70 (by kernel_rfl) (by kernel_rfl)
instance : FnOk Try.prog 71 := FnOk.of Try.func71 (by kernel_rfl) (by kernel_rfl)
instance : FnOk Try.prog 72 := FnOk.of Try.func72 (by kernel_rfl) (by kernel_rfl)
instance : FnOk Try.prog 73 := FnOk.of Try.func73 (by kernel_rfl) (by kernel_rfl)
instance : FnOk Try.prog 74 := FnOk.of Try.func74 (by kernel_rfl) (by kernel_rfl)
instance : FnOk Try.prog 75 := FnOk.of Try.func75 (by kernel_rfl) (by kernel_rfl)
instance : FnOk Try.prog 76 := FnOk.of Try.func76 (by kernel_rfl) (by kernel_rfl)
instance : FnOk Try.prog 77 := FnOk.of Try.func77 (by kernel_rfl) (by kernel_rfl)
instance : FnOk Try.prog 78 := FnOk.of Try.func78 (by kernel_rfl) (by kernel_rfl)
instance : FnOk Try.prog 79 := FnOk.of Try.func79 (by kernel_rfl) (by kernel_rfl)
instance : FnOk Try.prog 80 := FnOk.of Try.func80 (by kernel_rfl) (by kernel_rfl)
instance : FnOk Try.prog 81 := FnOk.of Try.func81 (by kernel_rfl) (by kernel_rfl)
instance : FnOk Try.prog 82 := FnOk.of Try.func82 (by kernel_rfl) (by kernel_rfl)
instance : FnOk Try.prog 83 := FnOk.of Try.func83 (by kernel_rfl) (by kernel_rfl)
instance : FnOk Try.prog 84 := FnOk.of Try.func84 (by kernel_rfl) (by kernel_rfl)
instance : FnOk Try.prog 85 := FnOk.of Try.func85 (by kernel_rfl) (by kernel_rfl)
instance : FnOk Try.prog 86 := FnOk.of Try.func86 (by kernel_rfl) (by kernel_rfl)
instance : FnOk Try.prog 87 := FnOk.of Try.func87 (by kernel_rfl) (by kernel_rfl)
instance : FnOk Try.prog 88 := FnOk.of Try.func88 (by kernel_rfl) (by kernel_rfl)
instance : FnOk Try.prog 89 := FnOk.of Try.func89 (by kernel_rfl) (by kernel_rfl)
instance : FnOk Try.prog 90 := FnOk.of Try.func90 (by kernel_rfl) (by kernel_rfl)
instance : FnOk Try.prog 91 := FnOk.of Try.func91 (by kernel_rfl) (by kernel_rfl)
instance : FnOk Try.prog 92 := FnOk.of Try.func92 (by kernel_rfl) (by kernel_rfl)
instance : FnOk Try.prog 93 := FnOk.of Try.func93 (by kernel_rfl) (by kernel_rfl)
instance : FnOk Try.prog 94 := FnOk.of Try.func94 (by kernel_rfl) (by kernel_rfl)
instance : FnOk Try.prog 95 := FnOk.of Try.func95 (by kernel_rfl) (by kernel_rfl)
instance : FnOk Try.prog 96 := FnOk.of Try.func96 (by kernel_rfl) (by kernel_rfl)
instance : FnOk Try.prog 97 := FnOk.of Try.func97 (by kernel_rfl) (by kernel_rfl)
instance : FnOk Try.prog 98 := FnOk.of Try.func98 (by kernel_rfl) (by kernel_rfl)
instance : FnOk Try.prog 99 := FnOk.of Try.func99 (by kernel_rfl) (by kernel_rfl)
instance : FnOk Try.prog 100 := FnOk.of Try.func100 (by kernel_rfl) (by kernel_rfl)
instance : FnOk Try.prog 101 := FnOk.of Try.func101 (by kernel_rfl) (by kernel_rfl)
instance : FnOk Try.prog 102 := FnOk.of Try.func102 (by kernel_rfl) (by kernel_rfl)
instance : FnOk Try.prog 103 := FnOk.of Try.func103 (by kernel_rfl) (by kernel_rfl)
instance : FnOk Try.prog 104 := FnOk.of Try.func104 (by kernel_rfl) (by kernel_rfl)
instance : FnOk Try.prog 105 := FnOk.of Try.func105 (by kernel_rfl) (by kernel_rfl)
instance : FnOk Try.prog 106 := FnOk.of Try.func106 (by kernel_rfl) (by kernel_rfl)
instance : FnOk Try.prog 107 := FnOk.of Try.func107 (by kernel_rfl) (by kernel_rfl)
instance : FnOk Try.prog 108 := FnOk.of Try.func108 (by kernel_rfl) (by kernel_rfl)
instance : FnOk Try.prog 109 := FnOk.of Try.func109 (by kernel_rfl) (by kernel_rfl)
instance : FnOk Try.prog 110 := FnOk.of Try.func110 (by kernel_rfl) (by kernel_rfl)
instance : FnOk Try.prog 111 := FnOk.of Try.func111 (by kernel_rfl) (by kernel_rfl)
instance : FnOk Try.prog 112 := FnOk.of Try.func112 (by kernel_rfl) (by kernel_rfl)
instance : FnOk Try.prog 113 := FnOk.of Try.func113 (by kernel_rfl) (by kernel_rfl)
instance : FnOk Try.prog 114 := FnOk.of Try.func114 (by kernel_rfl) (by kernel_rfl)
instance : FnOk Try.prog 115 := FnOk.of Try.func115 (by kernel_rfl) (by kernel_rfl)
instance : FnOk Try.prog 116 := FnOk.of Try.func116 (by kernel_rfl) (by kernel_rfl)
instance : FnOk Try.prog 117 := FnOk.of Try.func117 (by kernel_rfl) (by kernel_rfl)
instance : FnOk Try.prog 118 := FnOk.of Try.func118 (by kernel_rfl) (by kernel_rfl)
instance : FnOk Try.prog 119 := FnOk.of Try.func119 (by kernel_rfl) (by kernel_rfl)
instance : FnOk Try.prog 120 := FnOk.of Try.func120 (by kernel_rfl) (by kernel_rfl)
instance : FnOk Try.prog 121 := FnOk.of Try.func121 (by kernel_rfl) (by kernel_rfl)
instance : FnOk Try.prog 122 := FnOk.of Try.func122 (by kernel_rfl) (by kernel_rfl)
instance : FnOk Try.prog 123 := FnOk.of Try.func123 (by kernel_rfl) (by kernel_rfl)
instance : FnOk Try.prog 124 := FnOk.of Try.func124 (by kernel_rfl) (by kernel_rfl)
instance : FnOk Try.prog 125 := FnOk.of Try.func125 (by kernel_rfl) (by kernel_rfl)
instance : FnOk Try.prog 126 := FnOk.of Try.func126 (by kernel_rfl) (by kernel_rfl)
instance : FnOk Try.prog 127 := FnOk.of Try.func127 (by kernel_rfl) (by kernel_rfl)
instance : FnOk Try.prog 128 := FnOk.of Try.func128 (by kernel_rfl) (by kernel_rfl)
instance : FnOk Try.prog 129 := FnOk.of Try.func129 (by kernel_rfl) (by kernel_rfl)
instance : FnOk Try.prog 130 := FnOk.of Try.func130 (by kernel_rfl) (by kernel_rfl)
instance : FnOk Try.prog 131 := FnOk.of Try.func131 (by kernel_rfl) (by kernel_rfl)
instance : FnOk Try.prog 132 := FnOk.of Try.func132 (by kernel_rfl) (by kernel_rfl)
instance : FnOk Try.prog 133 := FnOk.of Try.func133 (by kernel_rfl) (by kernel_rfl)
instance : FnOk Try.prog 134 := FnOk.of Try.func134 (by kernel_rfl) (by kernel_rfl)
instance : FnOk Try.prog 135 := FnOk.of Try.func135 (by kernel_rfl) (by kernel_rfl)
instance : FnOk Try.prog 136 := FnOk.of Try.func136 (by kernel_rfl) (by kernel_rfl)
instance : FnOk Try.prog 137 := FnOk.of Try.func137 (by kernel_rfl) (by kernel_rfl)
instance : FnOk Try.prog 138 := FnOk.of Try.func138 (by kernel_rfl) (by kernel_rfl)
instance : FnOk Try.prog 139 := FnOk.of Try.func139 (by kernel_rfl) (by kernel_rfl)
instance : FnOk Try.prog 140 := FnOk.of Try.func140 (by kernel_rfl) (by kernel_rfl)
instance : FnOk Try.prog 141 := FnOk.of Try.func141 (by kernel_rfl) (by kernel_rfl)
instance : FnOk Try.prog 142 := FnOk.of Try.func142 (by kernel_rfl) (by kernel_rfl)
instance : FnOk Try.prog 143 := FnOk.of Try.func143 (by kernel_rfl) (by kernel_rfl)
instance : FnOk Try.prog 144 := FnOk.of Try.func144 (by kernel_rfl) (by kernel_rfl)
instance : FnOk Try.prog 145 := FnOk.of Try.func145 (by kernel_rfl) (by kernel_rfl)
instance : FnOk Try.prog 146 := FnOk.of Try.func146 (by kernel_rfl) (by kernel_rfl)
instance : FnOk Try.prog 147 := FnOk.of Try.func147 (by kernel_rfl) (by kernel_rfl)
instance : FnOk Try.prog 148 := FnOk.of Try.func148 (by kernel_rfl) (by kernel_rfl)
instance : FnOk Try.prog 149 := FnOk.of Try.func149 (by kernel_rfl) (by kernel_rfl)
instance : FnOk Try.prog 150 := FnOk.of Try.func150 (by kernel_rfl) (by kernel_rfl)
instance : FnOk Try.prog 151 := FnOk.of Try.func151 (by kernel_rfl) (by kernel_rfl)
instance : FnOk Try.prog 152 := FnOk.of Try.func152 (by kernel_rfl) (by kernel_rfl)
instance : FnOk Try.prog 153 := FnOk.of Try.func153 (by kernel_rfl) (by kernel_rfl)
instance : FnOk Try.prog 154 := FnOk.of Try.func154 (by kernel_rfl) (by kernel_rfl)
instance : FnOk Try.prog 155 := FnOk.of Try.func155 (by kernel_rfl) (by kernel_rfl)
instance : FnOk Try.prog 156 := FnOk.of Try.func156 (by kernel_rfl) (by kernel_rfl)
instance : FnOk Try.prog 157 := FnOk.of Try.func157 (by kernel_rfl) (by kernel_rfl)
instance : FnOk Try.prog 158 := FnOk.of Try.func158 (by kernel_rfl) (by kernel_rfl)
instance : FnOk Try.prog 159 := FnOk.of Try.func159 (by kernel_rfl) (by kernel_rfl)
instance : FnOk Try.prog 160 := FnOk.of Try.func160 (by kernel_rfl) (by kernel_rfl)
instance : FnOk Try.prog 161 := FnOk.of Try.func161 (by kernel_rfl) (by kernel_rfl)
end SG
