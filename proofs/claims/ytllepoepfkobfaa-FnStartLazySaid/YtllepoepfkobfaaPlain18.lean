/- Plain laws: states of the lazy machine at the start. -/
import Derived.Test.YtllepoepfkobfaaPlain15
namespace SG
set_option linter.unusedVariables false
set_option linter.unusedSimpArgs false
def stS (gs : List Nd) (i : Nat) : Int := if kindAt gs i = 0 then 0 else 2
theorem stS_cell {gs : List Nd} {i : Nat} (h : kindAt gs i = 0) : stS gs i = 0 := if_pos h
theorem stS_der {gs : List Nd} {i : Nat} (h : kindAt gs i ≠ 0) : stS gs i = 2 := if_neg h
def startS (gs : List Nd) : List Int := (List.range gs.length).map (stS gs)
@[simp] theorem startS_length (gs : List Nd) : (startS gs).length = gs.length := by simp [startS]
theorem startS_at {gs : List Nd} {i : Nat} (h : i < gs.length) : at0 (startS gs) i = stS gs i := by
  rw [← at0_eq (by simpa using h)]
  simp [startS]
noncomputable def lazX (gs : List Nd) (xs : List Int) : List Int := if cellsV gs xs = true then xs else []
noncomputable def lazR (gs : List Nd) (xs : List Int) : List (List Int) := if cellsV gs xs = true then List.replicate gs.length [] else []
noncomputable def lazS (gs : List Nd) (xs : List Int) : List Int := if cellsV gs xs = true then startS gs else []
theorem lazX_yes {gs : List Nd} {xs : List Int} (h : cellsV gs xs = true) : lazX gs xs = xs := if_pos h
theorem lazR_yes {gs : List Nd} {xs : List Int} (h : cellsV gs xs = true) : lazR gs xs = List.replicate gs.length [] := if_pos h
theorem lazS_yes {gs : List Nd} {xs : List Int} (h : cellsV gs xs = true) : lazS gs xs = startS gs := if_pos h
theorem lazX_no {gs : List Nd} {xs : List Int} (h : cellsV gs xs = false) : lazX gs xs = [] := if_neg (by simp [h])
theorem lazR_no {gs : List Nd} {xs : List Int} (h : cellsV gs xs = false) : lazR gs xs = [] := if_neg (by simp [h])
theorem lazS_no {gs : List Nd} {xs : List Int} (h : cellsV gs xs = false) : lazS gs xs = [] := if_neg (by simp [h])
theorem lazX_ten (gs : List Nd) (xs : List Int) : (lazX gs xs).length ≤ 10 := by
  cases h : cellsV gs xs with
  | false => rw [lazX_no h]; simp
  | true => rw [lazX_yes h, (cellsV_len h).1]; exact (cellsV_len h).2
theorem lazR_ten (gs : List Nd) (xs : List Int) : (lazR gs xs).length ≤ 10 := by
  cases h : cellsV gs xs with
  | false => rw [lazR_no h]; simp
  | true => rw [lazR_yes h, List.length_replicate]; exact (cellsV_len h).2
theorem lazR_nil (gs : List Nd) (xs : List Int) : ∀ ys ∈ lazR gs xs, ys = [] := by
  cases h : cellsV gs xs with
  | false => rw [lazR_no h]; simp
  | true => rw [lazR_yes h]; intro ys hy; exact (List.mem_replicate.1 hy).2
theorem lazS_ten (gs : List Nd) (xs : List Int) : (lazS gs xs).length ≤ 10 := by
  cases h : cellsV gs xs with
  | false => rw [lazS_no h]; simp
  | true => rw [lazS_yes h, startS_length]; exact (cellsV_len h).2
/-- what a state shows of its cells: the values, zero for the others -/
def cellsF (gs : List Nd) (xs : List Int) (k : Nat) : List Int := setsL xs k (fun i => if kindAt gs i = 0 then at0 xs i else 0)
theorem cellsF_full {gs : List Nd} {xs : List Int} (h : cellsV gs xs = true) (k : Nat) : cellsF gs xs k = xs := by
  unfold cellsF
  refine List.ext_getElem (by simp) fun j h1 h2 => ?_
  have hj : j < gs.length := by rw [← (cellsV_len h).1]; exact h2
  have := ((cellsV_at.1 h).2.2 j hj).2
  rw [setsL_get]
  split
  · split
    · exact (at0_eq h2).symm
    · rename_i h3; rw [at0_eq h2]; exact (this h3).symm
  · exact (at0_eq h2).symm
end SG
