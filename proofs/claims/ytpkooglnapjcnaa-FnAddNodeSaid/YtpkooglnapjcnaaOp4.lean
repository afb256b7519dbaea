/- More rules: xor. -/
import Derived.Test.YtpkooglnapjcnaaC3
namespace SG
open Go Go.RowKit
set_option linter.unusedVariables false
section
variable {P : Program} {N : Nat} {F : Env} {dst : Option Tmp} {ty : TypeId} {pos : String} {after : Array Edge} {x y : Operand} {m n : Int} {t t' : TypeId}
theorem xor_i64 (m n : Int) (hm : 0 ≤ m ∧ m < 4611686018427387904) (hn : 0 ≤ n ∧ n < 4611686018427387904) : IntKind.i64.wrap ((BitVec.ofInt 64 m ^^^ BitVec.ofInt 64 n).toNat : Int) = ((m.toNat ^^^ n.toNat : Nat) : Int) := by
  have h1 : (BitVec.ofInt 64 m).toNat = m.toNat := by rw [BitVec.toNat_ofInt]; congr 1; omega
  have h2 : (BitVec.ofInt 64 n).toNat = n.toNat := by rw [BitVec.toNat_ofInt]; congr 1; omega
  rw [BitVec.toNat_xor, h1, h2]
  have hb : m.toNat ^^^ n.toNat < 2 ^ 62 := Nat.xor_lt_two_pow (by omega) (by omega)
  exact IntWalk.i64_in _ ⟨by omega, by omega⟩
theorem xor_bound (m n : Int) (hm : 0 ≤ m ∧ m < 4611686018427387904) (hn : 0 ≤ n ∧ n < 4611686018427387904) : m.toNat ^^^ n.toNat < 4611686018427387904 := by
  have hb : m.toNat ^^^ n.toNat < 2 ^ 62 := Nat.xor_lt_two_pow (by omega) (by omega)
  omega
theorem Ev.xor (hx : ev F x = some (.int .i64 m)) (hy : ev F y = some (.int .i64 n)) (hm : 0 ≤ m ∧ m < 4611686018427387904) (hn : 0 ≤ n ∧ n < 4611686018427387904) : EvP P N ⟨dst, .binOp .xor t x y t', ty, pos, after, none⟩ F (.int .i64 ((m.toNat ^^^ n.toNat : Nat) : Int)) := ⟨rfl, fun a w hf => by
  have e := xor_i64 m n hm hn
  simp only [execOp, hf.ev hx, hf.ev hy, eqGuard, binOp, Op.intBits, IntKind.bits]
  simp
  exact e⟩
end
end SG
