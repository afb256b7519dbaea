/- Contracts: what the nodes of a graph mean, of both. -/
import Derived.Test.YtojffodplphlaaaD8
import Derived.Test.YtojffodplphlaaaD14
import Derived.Test.YtojffodplphlaaaD17
import Derived.Test.YtojffodplphlaaaD20
import Derived.Test.YtojffodplphlaaaPB
namespace SG
open Go Go.RowKit Go.Proofs
set_option linter.unusedVariables false
set_option linter.unusedSimpArgs false
set_option maxRecDepth 100000
/-! lists of lists -/
def li (ls : List LiM) : List (List Int) := ls.map LiM.xs
@[simp] theorem li_length (ls : List LiM) : (li ls).length = ls.length := by simp [li]
theorem li_get {ls : List LiM} {i : Nat} (h : i < (li ls).length) : (li ls)[i] = (ls[i]'(by simpa using h)).xs := by simp [li]
def LiM.rowA (l : LiM) : Asn := row intE l.a l.c l.xs
def rowsA (ls : List LiM) : Asn := Sat (ls.map LiM.rowA)
theorem GC.rows0 {P : Program} {Q : Exit → Act → World → Prop} {w0 : World} {N : Nat} {fs : List Kf} {F : Env} {L : List Asn} {c : Code} (h : GC P Q w0 N fs c F (rowsA [] :: L)) : GC P Q w0 N fs c F L := GC.state (fun _ hs => hs.sat0) h
theorem St.rows_snoc {w0 w : World} {L : List Asn} {ls : List LiM} {m : LiM} (h : St w0 w (m.rowA :: rowsA ls :: L)) : St w0 w (rowsA (ls ++ [m]) :: L) := by
  have := h.sat_snoc
  unfold rowsA
  rw [List.map_append]
  exact this
theorem GE.rows_snoc {P : Program} {Q : Exit → Act → World → Prop} {w0 : World} {N : Nat} {fs : List Kf} {F : Env} {L L1 L2 : List Asn} {e : Exit} {ls : List LiM} (m : LiM) (p : Pick L m.rowA L1) (q : Pick L1 (rowsA ls) L2) (h : GE P Q w0 N fs e F (rowsA (ls ++ [m]) :: L2)) : GE P Q w0 N fs e F L :=
  GE.state (fun w hs => St.rows_snoc (St.pick (A := rowsA ls) (L := m.rowA :: L1) (L' := m.rowA :: L2) (hs.pick p) (.tail q) |>.pick (.tail .head))) h
theorem Rd.of_rows {w0 : World} {L L1 : List Asn} {ls : List LiM} (p : Pick L (rowsA ls) L1) {m : LiM} (hm : m ∈ ls) : Rd w0 L intE m.a m.c m.xs := ⟨fun w hs => by
  have h := (hs.pick p).flat
  obtain ⟨L2, p2⟩ := Pick.mem (List.mem_map_of_mem (f := LiM.rowA) hm)
  exact (Rd.of_pick (p2.app_left (X := L1))).go w h⟩
theorem fill2_same {α : Type} (ys : List α) (z : α) (i n : Nat) (hi : i < n) : ys ++ List.replicate (n - i) z = (ys ++ [z]) ++ List.replicate (n - (i + 1)) z := by
  have e : n - i = (n - (i + 1)) + 1 := by omega
  rw [e, List.replicate_succ, List.append_assoc]; rfl
/-! the program -/
theorem meaning1_spec (w0 : World) (L : List Asn) (n : Int) (g : Nat) (B : Option Addr) (k d : Nat) (xs : List Int) (hb : BlkRd w0 L g 26 [.slice B k d]) (hX : Rd w0 L intE B d xs) (hk : k = xs.length) (h0 : 0 ≤ n) (h1 : n < xs.length) : Tr Try.prog 118 #[.int .i64 n, .pointer (some ⟨g, 0, none⟩)] w0 L (fun v L' => v = .int .i64 (valF xs n) ∧ L' = L) := by
  subst hk
  refine Tr.enter (args := [.int .i64 n, .pointer (some ⟨g, 0, none⟩)]) Try.func118 Try.ntmps118 rfl rfl ?_
  refine GC.seq ?_
  refine GC.region ?_
  refine GL.v Wag ?_
  refine GL.nil ?_
  refine GE.seq ?_
  refine GC.seq ?_
  refine GC.region ?_
  refine GL.v Wlb ?_
  refine GL.v Wmv ?_
  refine GL.v Wix ?_
  refine GL.v Wle ?_
  refine GL.v Wag ?_
  refine GL.nil ?_
  refine GE.seq ?_
  refine GC.ret ?_
  -- returns, path 
  refine GE.ret_tmp (L' := L) (.inl rfl) rfl rfl Wsb ?_
  exact ⟨by rw [at0_eq]; rfl, rfl⟩
theorem meaning_spec (w0 : World) (L : List Asn) (A : Option Addr) (c : Nat) (ms : List NdM) (hG : RdG w0 L A c ms) (B : Option Addr) (d : Nat) (xs : List Int) (hX : Rd w0 L intE B d xs) (hC : cellsV (gr ms) xs = true) :
    Tr Try.prog 66 #[.agg #[.slice A ms.length c], .slice B xs.length d] w0 L (fun v L' => ∃ D E ls, li ls = depsL (gr ms) xs ∧ v = .tuple #[.slice D (meanL (gr ms) xs).length ms.length, .slice E ls.length ms.length] ∧ L' = row intE D ms.length (meanL (gr ms) xs) :: row slE E ms.length ls :: rowsA ls :: L) := by
  have hN := hG.nodes
  have hV := (cellsV_iff.1 hC).1
  have hK := (cellsV_iff.1 hC).2
  have hl10 : ms.length ≤ 10 := by have := hV.1; simpa using this
  have hxl : xs.length = ms.length := by have := hK.1; simpa using this
  refine Tr.enter (args := [.agg #[.slice A ms.length c], .slice B xs.length d]) Try.func66 Try.ntmps66 rfl rfl ?_
  refine GC.seq ?_
  refine GC.region ?_
  refine GL.box_agg rfl rfl ?_; intro g2
  refine GL.v Wag ?_
  refine GL.v Wag ?_
  refine GL.nil ?_
  refine GE.seq ?_
  -- mid 1: carried slots [6, 7]
  refine GC.seq_mid (β := Nat × Nat × Nat) (fun b => True) (fun b => [(6, .pointer (some ⟨b.1, 0, none⟩)), (7, .slice (some ⟨b.2.2, 0, none⟩) ms.length ms.length)]) [(1, _), (2, _)] (fun b => row intE (some ⟨b.2.1, 0, none⟩) ms.length (List.replicate ms.length 0) :: row slE (some ⟨b.2.2, 0, none⟩) ms.length (List.replicate ms.length ⟨none, 0, []⟩) :: blk b.1 26 [.slice (some ⟨b.2.1, 0, none⟩) ms.length ms.length] :: blk g2 25 [.slice A ms.length c] :: L) Wkp ?_ ?_
  ·
    refine GC.region_any #[false, true, true, false, true, true, true, true, false] mixed ?_
    refine GA.read 0 #[false, false, false, true, false, false, true, false, false] rfl (by exact Wlba) rfl rfl (by kernel_rfl) rfl (by kernel_rfl) (by kernel_rfl) (fun _ _ _ h => h) ?_
    refine GA.read 3 #[true, true, true, false, false, false, true, false, false] rfl (by exact Wlba) rfl rfl (by kernel_rfl) rfl (by kernel_rfl) (by kernel_rfl) (fun _ _ _ h => h) ?_
    refine GA.branch (rs := [1, 6]) (JOk.live (by exact Wlba) (JOk.live (by exact Wlba) JOk.nil)) (by kernel_rfl) (by simp) ?_
    refine GAs.cons rfl ?_ ?_
    · -- .1 op 1
      refine GL.callF rfl rfl (size_spec _ _ _ _ _) ?_
      refine GL.nil ?_
      refine GE.any ?_
      refine GA.branch (rs := [2, 4, 6]) (JOk.live (by exact Wlba) (JOk.dead (by kernel_rfl) JOk.nil)) (by kernel_rfl) (by simp) ?_
      refine GAs.cons rfl ?_ ?_
      · -- .1.2 op 2
        refine GL.make rfl rfl Wik Wik (by omega) (by omega) rfl ?_; intro g12
        refine GL.nil ?_
        refine GE.any ?_
        refine GA.branch (rs := [4, 6]) (JOk.live (by exact Wlba) (JOk.dead (by kernel_rfl) JOk.nil)) (by kernel_rfl) (by simp) ?_
        refine GAs.cons rfl ?_ ?_
        · -- .1.2.4 op 4
          refine GL.callF rfl rfl (size_spec _ _ _ _ _) ?_
          refine GL.nil ?_
          refine GE.any ?_
          refine GA.branch (rs := [5, 6]) (JOk.dead (by kernel_rfl) (JOk.dead (by kernel_rfl) JOk.nil)) (by kernel_rfl) (by simp) ?_
          refine GAs.cons rfl ?_ ?_
          · -- .1.2.4.5 op 5
            refine GL.make rfl rfl Wik Wik (by omega) (by omega) rfl ?_; intro g15
            refine GL.nil ?_
            refine GE.any ?_
            refine GA.branch (rs := [6]) (JOk.dead (by kernel_rfl) (JOk.dead (by kernel_rfl) JOk.nil)) (by kernel_rfl) (by simp) ?_
            refine GAs.cons rfl ?_ ?_
            · -- .1.2.4.5 op 6
              refine GL.alloc rfl ?_; intro g6
              refine GL.nil ?_
              refine GE.any ?_
              refine GA.branch (rs := [7]) (JOk.dead (by kernel_rfl) (JOk.dead (by kernel_rfl) JOk.nil)) (by kernel_rfl) (by simp) ?_
              refine GAs.cons rfl ?_ ?_
              · -- .1.2.4.5 op 7
                refine GL.store_var1 rfl rfl rfl Wpk (by rfl) (by rfl) ?_
                refine GL.nil ?_
                refine GE.any ?_
                refine GA.take 8 #[true, true, true, true, true, true, true, true, false] rfl (by exact Ev.assign rfl) rfl rfl (by kernel_rfl) rfl (by kernel_rfl) (by kernel_rfl) (fun _ _ _ h => h) ?_
                refine GA.done (JOk.dead (by kernel_rfl) (JOk.dead (by kernel_rfl) JOk.nil)) (by kernel_rfl) ?_
                refine GE.mid ((g6, g12, g15) : Nat × Nat × Nat) trivial Wkp Wsb
              exact GAs.nil
            exact GAs.nil
          refine GAs.cons rfl ?_ ?_
          · -- .1.2.4.6 op 6
            refine GL.alloc rfl ?_; intro g6
            refine GL.nil ?_
            refine GE.any ?_
            refine GA.branch (rs := [5, 7]) (JOk.dead (by kernel_rfl) (JOk.dead (by kernel_rfl) JOk.nil)) (by kernel_rfl) (by simp) ?_
            refine GAs.cons rfl ?_ ?_
            · -- .1.2.4.6.5 op 5
              refine GL.make rfl rfl Wik Wik (by omega) (by omega) rfl ?_; intro g15
              refine GL.nil ?_
              refine GE.any ?_
              refine GA.branch (rs := [7]) (JOk.dead (by kernel_rfl) (JOk.dead (by kernel_rfl) JOk.nil)) (by kernel_rfl) (by simp) ?_
              refine GAs.cons rfl ?_ ?_
              · -- .1.2.4.6.5 op 7
                refine GL.store_var1 rfl rfl rfl Wpk (by rfl) (by rfl) ?_
                refine GL.nil ?_
                refine GE.any ?_
                refine GA.take 8 #[true, true, true, true, true, true, true, true, false] rfl (by exact Ev.assign rfl) rfl rfl (by kernel_rfl) rfl (by kernel_rfl) (by kernel_rfl) (fun _ _ _ h => h) ?_
                refine GA.done (JOk.dead (by kernel_rfl) (JOk.dead (by kernel_rfl) JOk.nil)) (by kernel_rfl) ?_
                refine GE.mid ((g6, g12, g15) : Nat × Nat × Nat) trivial Wkp Wsb
              exact GAs.nil
            refine GAs.cons rfl ?_ ?_
            · -- .1.2.4.6.7 op 7
              refine GL.store_var1 rfl rfl rfl Wpk (by rfl) (by rfl) ?_
              refine GL.nil ?_
              refine GE.any ?_
              refine GA.branch (rs := [5]) (JOk.dead (by kernel_rfl) (JOk.dead (by kernel_rfl) JOk.nil)) (by kernel_rfl) (by simp) ?_
              refine GAs.cons rfl ?_ ?_
              · -- .1.2.4.6.7 op 5
                refine GL.make rfl rfl Wik Wik (by omega) (by omega) rfl ?_; intro g15
                refine GL.nil ?_
                refine GE.any ?_
                refine GA.take 8 #[true, true, true, true, true, true, true, true, false] rfl (by exact Ev.assign rfl) rfl rfl (by kernel_rfl) rfl (by kernel_rfl) (by kernel_rfl) (fun _ _ _ h => h) ?_
                refine GA.done (JOk.dead (by kernel_rfl) (JOk.dead (by kernel_rfl) JOk.nil)) (by kernel_rfl) ?_
                refine GE.mid ((g6, g12, g15) : Nat × Nat × Nat) trivial Wkp Wsb
              exact GAs.nil
            exact GAs.nil
          exact GAs.nil
        refine GAs.cons rfl ?_ ?_
        · -- .1.2.6 op 6
          refine GL.alloc rfl ?_; intro g6
          refine GL.nil ?_
          refine GE.any ?_
          refine GA.branch (rs := [4]) (JOk.live (by exact Wlba) (JOk.dead (by kernel_rfl) JOk.nil)) (by kernel_rfl) (by simp) ?_
          refine GAs.cons rfl ?_ ?_
          · -- .1.2.6 op 4
            refine GL.callF rfl rfl (size_spec _ _ _ _ _) ?_
            refine GL.nil ?_
            refine GE.any ?_
            refine GA.branch (rs := [5, 7]) (JOk.dead (by kernel_rfl) (JOk.dead (by kernel_rfl) JOk.nil)) (by kernel_rfl) (by simp) ?_
            refine GAs.cons rfl ?_ ?_
            · -- .1.2.6.5 op 5
              refine GL.make rfl rfl Wik Wik (by omega) (by omega) rfl ?_; intro g15
              refine GL.nil ?_
              refine GE.any ?_
              refine GA.branch (rs := [7]) (JOk.dead (by kernel_rfl) (JOk.dead (by kernel_rfl) JOk.nil)) (by kernel_rfl) (by simp) ?_
              refine GAs.cons rfl ?_ ?_
              · -- .1.2.6.5 op 7
                refine GL.store_var1 rfl rfl rfl Wpk (by rfl) (by rfl) ?_
                refine GL.nil ?_
                refine GE.any ?_
                refine GA.take 8 #[true, true, true, true, true, true, true, true, false] rfl (by exact Ev.assign rfl) rfl rfl (by kernel_rfl) rfl (by kernel_rfl) (by kernel_rfl) (fun _ _ _ h => h) ?_
                refine GA.done (JOk.dead (by kernel_rfl) (JOk.dead (by kernel_rfl) JOk.nil)) (by kernel_rfl) ?_
                refine GE.mid ((g6, g12, g15) : Nat × Nat × Nat) trivial Wkp Wsb
              exact GAs.nil
            refine GAs.cons rfl ?_ ?_
            · -- .1.2.6.7 op 7
              refine GL.store_var1 rfl rfl rfl Wpk (by rfl) (by rfl) ?_
              refine GL.nil ?_
              refine GE.any ?_
              refine GA.branch (rs := [5]) (JOk.dead (by kernel_rfl) (JOk.dead (by kernel_rfl) JOk.nil)) (by kernel_rfl) (by simp) ?_
              refine GAs.cons rfl ?_ ?_
              · -- .1.2.6.7 op 5
                refine GL.make rfl rfl Wik Wik (by omega) (by omega) rfl ?_; intro g15
                refine GL.nil ?_
                refine GE.any ?_
                refine GA.take 8 #[true, true, true, true, true, true, true, true, false] rfl (by exact Ev.assign rfl) rfl rfl (by kernel_rfl) rfl (by kernel_rfl) (by kernel_rfl) (fun _ _ _ h => h) ?_
                refine GA.done (JOk.dead (by kernel_rfl) (JOk.dead (by kernel_rfl) JOk.nil)) (by kernel_rfl) ?_
                refine GE.mid ((g6, g12, g15) : Nat × Nat × Nat) trivial Wkp Wsb
              exact GAs.nil
            exact GAs.nil
          exact GAs.nil
        exact GAs.nil
      refine GAs.cons rfl ?_ ?_
      · -- .1.4 op 4
        refine GL.callF rfl rfl (size_spec _ _ _ _ _) ?_
        refine GL.nil ?_
        refine GE.any ?_
        refine GA.branch (rs := [2, 5, 6]) (JOk.dead (by kernel_rfl) (JOk.dead (by kernel_rfl) JOk.nil)) (by kernel_rfl) (by simp) ?_
        refine GAs.cons rfl ?_ ?_
        · -- .1.4.2 op 2
          refine GL.make rfl rfl Wik Wik (by omega) (by omega) rfl ?_; intro g12
          refine GL.nil ?_
          refine GE.any ?_
          refine GA.branch (rs := [5, 6]) (JOk.dead (by kernel_rfl) (JOk.dead (by kernel_rfl) JOk.nil)) (by kernel_rfl) (by simp) ?_
          refine GAs.cons rfl ?_ ?_
          · -- .1.4.2.5 op 5
            refine GL.make rfl rfl Wik Wik (by omega) (by omega) rfl ?_; intro g15
            refine GL.nil ?_
            refine GE.any ?_
            refine GA.branch (rs := [6]) (JOk.dead (by kernel_rfl) (JOk.dead (by kernel_rfl) JOk.nil)) (by kernel_rfl) (by simp) ?_
            refine GAs.cons rfl ?_ ?_
            · -- .1.4.2.5 op 6
              refine GL.alloc rfl ?_; intro g6
              refine GL.nil ?_
              refine GE.any ?_
              refine GA.branch (rs := [7]) (JOk.dead (by kernel_rfl) (JOk.dead (by kernel_rfl) JOk.nil)) (by kernel_rfl) (by simp) ?_
              refine GAs.cons rfl ?_ ?_
              · -- .1.4.2.5 op 7
                refine GL.store_var1 rfl rfl rfl Wpk (by rfl) (by rfl) ?_
                refine GL.nil ?_
                refine GE.any ?_
                refine GA.take 8 #[true, true, true, true, true, true, true, true, false] rfl (by exact Ev.assign rfl) rfl rfl (by kernel_rfl) rfl (by kernel_rfl) (by kernel_rfl) (fun _ _ _ h => h) ?_
                refine GA.done (JOk.dead (by kernel_rfl) (JOk.dead (by kernel_rfl) JOk.nil)) (by kernel_rfl) ?_
                refine GE.mid ((g6, g12, g15) : Nat × Nat × Nat) trivial Wkp Wsb
              exact GAs.nil
            exact GAs.nil
          refine GAs.cons rfl ?_ ?_
          · -- .1.4.2.6 op 6
            refine GL.alloc rfl ?_; intro g6
            refine GL.nil ?_
            refine GE.any ?_
            refine GA.branch (rs := [5, 7]) (JOk.dead (by kernel_rfl) (JOk.dead (by kernel_rfl) JOk.nil)) (by kernel_rfl) (by simp) ?_
            refine GAs.cons rfl ?_ ?_
            · -- .1.4.2.6.5 op 5
              refine GL.make rfl rfl Wik Wik (by omega) (by omega) rfl ?_; intro g15
              refine GL.nil ?_
              refine GE.any ?_
              refine GA.branch (rs := [7]) (JOk.dead (by kernel_rfl) (JOk.dead (by kernel_rfl) JOk.nil)) (by kernel_rfl) (by simp) ?_
              refine GAs.cons rfl ?_ ?_
              · -- .1.4.2.6.5 op 7
                refine GL.store_var1 rfl rfl rfl Wpk (by rfl) (by rfl) ?_
                refine GL.nil ?_
                refine GE.any ?_
                refine GA.take 8 #[true, true, true, true, true, true, true, true, false] rfl (by exact Ev.assign rfl) rfl rfl (by kernel_rfl) rfl (by kernel_rfl) (by kernel_rfl) (fun _ _ _ h => h) ?_
                refine GA.done (JOk.dead (by kernel_rfl) (JOk.dead (by kernel_rfl) JOk.nil)) (by kernel_rfl) ?_
                refine GE.mid ((g6, g12, g15) : Nat × Nat × Nat) trivial Wkp Wsb
              exact GAs.nil
            refine GAs.cons rfl ?_ ?_
            · -- .1.4.2.6.7 op 7
              refine GL.store_var1 rfl rfl rfl Wpk (by rfl) (by rfl) ?_
              refine GL.nil ?_
              refine GE.any ?_
              refine GA.branch (rs := [5]) (JOk.dead (by kernel_rfl) (JOk.dead (by kernel_rfl) JOk.nil)) (by kernel_rfl) (by simp) ?_
              refine GAs.cons rfl ?_ ?_
              · -- .1.4.2.6.7 op 5
                refine GL.make rfl rfl Wik Wik (by omega) (by omega) rfl ?_; intro g15
                refine GL.nil ?_
                refine GE.any ?_
                refine GA.take 8 #[true, true, true, true, true, true, true, true, false] rfl (by exact Ev.assign rfl) rfl rfl (by kernel_rfl) rfl (by kernel_rfl) (by kernel_rfl) (fun _ _ _ h => h) ?_
                refine GA.done (JOk.dead (by kernel_rfl) (JOk.dead (by kernel_rfl) JOk.nil)) (by kernel_rfl) ?_
                refine GE.mid ((g6, g12, g15) : Nat × Nat × Nat) trivial Wkp Wsb
              exact GAs.nil
            exact GAs.nil
          exact GAs.nil
        refine GAs.cons rfl ?_ ?_
        · -- .1.4.5 op 5
          refine GL.make rfl rfl Wik Wik (by omega) (by omega) rfl ?_; intro g15
          refine GL.nil ?_
          refine GE.any ?_
          refine GA.branch (rs := [2, 6]) (JOk.dead (by kernel_rfl) (JOk.dead (by kernel_rfl) JOk.nil)) (by kernel_rfl) (by simp) ?_
          refine GAs.cons rfl ?_ ?_
          · -- .1.4.5.2 op 2
            refine GL.make rfl rfl Wik Wik (by omega) (by omega) rfl ?_; intro g12
            refine GL.nil ?_
            refine GE.any ?_
            refine GA.branch (rs := [6]) (JOk.dead (by kernel_rfl) (JOk.dead (by kernel_rfl) JOk.nil)) (by kernel_rfl) (by simp) ?_
            refine GAs.cons rfl ?_ ?_
            · -- .1.4.5.2 op 6
              refine GL.alloc rfl ?_; intro g6
              refine GL.nil ?_
              refine GE.any ?_
              refine GA.branch (rs := [7]) (JOk.dead (by kernel_rfl) (JOk.dead (by kernel_rfl) JOk.nil)) (by kernel_rfl) (by simp) ?_
              refine GAs.cons rfl ?_ ?_
              · -- .1.4.5.2 op 7
                refine GL.store_var1 rfl rfl rfl Wpk (by rfl) (by rfl) ?_
                refine GL.nil ?_
                refine GE.any ?_
                refine GA.take 8 #[true, true, true, true, true, true, true, true, false] rfl (by exact Ev.assign rfl) rfl rfl (by kernel_rfl) rfl (by kernel_rfl) (by kernel_rfl) (fun _ _ _ h => h) ?_
                refine GA.done (JOk.dead (by kernel_rfl) (JOk.dead (by kernel_rfl) JOk.nil)) (by kernel_rfl) ?_
                refine GE.mid ((g6, g12, g15) : Nat × Nat × Nat) trivial Wkp Wsb
              exact GAs.nil
            exact GAs.nil
          refine GAs.cons rfl ?_ ?_
          · -- .1.4.5.6 op 6
            refine GL.alloc rfl ?_; intro g6
            refine GL.nil ?_
            refine GE.any ?_
            refine GA.branch (rs := [2]) (JOk.dead (by kernel_rfl) (JOk.dead (by kernel_rfl) JOk.nil)) (by kernel_rfl) (by simp) ?_
            refine GAs.cons rfl ?_ ?_
            · -- .1.4.5.6 op 2
              refine GL.make rfl rfl Wik Wik (by omega) (by omega) rfl ?_; intro g12
              refine GL.nil ?_
              refine GE.any ?_
              refine GA.branch (rs := [7]) (JOk.dead (by kernel_rfl) (JOk.dead (by kernel_rfl) JOk.nil)) (by kernel_rfl) (by simp) ?_
              refine GAs.cons rfl ?_ ?_
              · -- .1.4.5.6 op 7
                refine GL.store_var1 rfl rfl rfl Wpk (by rfl) (by rfl) ?_
                refine GL.nil ?_
                refine GE.any ?_
                refine GA.take 8 #[true, true, true, true, true, true, true, true, false] rfl (by exact Ev.assign rfl) rfl rfl (by kernel_rfl) rfl (by kernel_rfl) (by kernel_rfl) (fun _ _ _ h => h) ?_
                refine GA.done (JOk.dead (by kernel_rfl) (JOk.dead (by kernel_rfl) JOk.nil)) (by kernel_rfl) ?_
                refine GE.mid ((g6, g12, g15) : Nat × Nat × Nat) trivial Wkp Wsb
              exact GAs.nil
            exact GAs.nil
          exact GAs.nil
        refine GAs.cons rfl ?_ ?_
        · -- .1.4.6 op 6
          refine GL.alloc rfl ?_; intro g6
          refine GL.nil ?_
          refine GE.any ?_
          refine GA.branch (rs := [2, 5]) (JOk.dead (by kernel_rfl) (JOk.dead (by kernel_rfl) JOk.nil)) (by kernel_rfl) (by simp) ?_
          refine GAs.cons rfl ?_ ?_
          · -- .1.4.6.2 op 2
            refine GL.make rfl rfl Wik Wik (by omega) (by omega) rfl ?_; intro g12
            refine GL.nil ?_
            refine GE.any ?_
            refine GA.branch (rs := [5, 7]) (JOk.dead (by kernel_rfl) (JOk.dead (by kernel_rfl) JOk.nil)) (by kernel_rfl) (by simp) ?_
            refine GAs.cons rfl ?_ ?_
            · -- .1.4.6.2.5 op 5
              refine GL.make rfl rfl Wik Wik (by omega) (by omega) rfl ?_; intro g15
              refine GL.nil ?_
              refine GE.any ?_
              refine GA.branch (rs := [7]) (JOk.dead (by kernel_rfl) (JOk.dead (by kernel_rfl) JOk.nil)) (by kernel_rfl) (by simp) ?_
              refine GAs.cons rfl ?_ ?_
              · -- .1.4.6.2.5 op 7
                refine GL.store_var1 rfl rfl rfl Wpk (by rfl) (by rfl) ?_
                refine GL.nil ?_
                refine GE.any ?_
                refine GA.take 8 #[true, true, true, true, true, true, true, true, false] rfl (by exact Ev.assign rfl) rfl rfl (by kernel_rfl) rfl (by kernel_rfl) (by kernel_rfl) (fun _ _ _ h => h) ?_
                refine GA.done (JOk.dead (by kernel_rfl) (JOk.dead (by kernel_rfl) JOk.nil)) (by kernel_rfl) ?_
                refine GE.mid ((g6, g12, g15) : Nat × Nat × Nat) trivial Wkp Wsb
              exact GAs.nil
            refine GAs.cons rfl ?_ ?_
            · -- .1.4.6.2.7 op 7
              refine GL.store_var1 rfl rfl rfl Wpk (by rfl) (by rfl) ?_
              refine GL.nil ?_
              refine GE.any ?_
              refine GA.branch (rs := [5]) (JOk.dead (by kernel_rfl) (JOk.dead (by kernel_rfl) JOk.nil)) (by kernel_rfl) (by simp) ?_
              refine GAs.cons rfl ?_ ?_
              · -- .1.4.6.2.7 op 5
                refine GL.make rfl rfl Wik Wik (by omega) (by omega) rfl ?_; intro g15
                refine GL.nil ?_
                refine GE.any ?_
                refine GA.take 8 #[true, true, true, true, true, true, true, true, false] rfl (by exact Ev.assign rfl) rfl rfl (by kernel_rfl) rfl (by kernel_rfl) (by kernel_rfl) (fun _ _ _ h => h) ?_
                refine GA.done (JOk.dead (by kernel_rfl) (JOk.dead (by kernel_rfl) JOk.nil)) (by kernel_rfl) ?_
                refine GE.mid ((g6, g12, g15) : Nat × Nat × Nat) trivial Wkp Wsb
              exact GAs.nil
            exact GAs.nil
          refine GAs.cons rfl ?_ ?_
          · -- .1.4.6.5 op 5
            refine GL.make rfl rfl Wik Wik (by omega) (by omega) rfl ?_; intro g15
            refine GL.nil ?_
            refine GE.any ?_
            refine GA.branch (rs := [2]) (JOk.dead (by kernel_rfl) (JOk.dead (by kernel_rfl) JOk.nil)) (by kernel_rfl) (by simp) ?_
            refine GAs.cons rfl ?_ ?_
            · -- .1.4.6.5 op 2
              refine GL.make rfl rfl Wik Wik (by omega) (by omega) rfl ?_; intro g12
              refine GL.nil ?_
              refine GE.any ?_
              refine GA.branch (rs := [7]) (JOk.dead (by kernel_rfl) (JOk.dead (by kernel_rfl) JOk.nil)) (by kernel_rfl) (by simp) ?_
              refine GAs.cons rfl ?_ ?_
              · -- .1.4.6.5 op 7
                refine GL.store_var1 rfl rfl rfl Wpk (by rfl) (by rfl) ?_
                refine GL.nil ?_
                refine GE.any ?_
                refine GA.take 8 #[true, true, true, true, true, true, true, true, false] rfl (by exact Ev.assign rfl) rfl rfl (by kernel_rfl) rfl (by kernel_rfl) (by kernel_rfl) (fun _ _ _ h => h) ?_
                refine GA.done (JOk.dead (by kernel_rfl) (JOk.dead (by kernel_rfl) JOk.nil)) (by kernel_rfl) ?_
                refine GE.mid ((g6, g12, g15) : Nat × Nat × Nat) trivial Wkp Wsb
              exact GAs.nil
            exact GAs.nil
          exact GAs.nil
        exact GAs.nil
      refine GAs.cons rfl ?_ ?_
      · -- .1.6 op 6
        refine GL.alloc rfl ?_; intro g6
        refine GL.nil ?_
        refine GE.any ?_
        refine GA.branch (rs := [2, 4]) (JOk.live (by exact Wlba) (JOk.dead (by kernel_rfl) JOk.nil)) (by kernel_rfl) (by simp) ?_
        refine GAs.cons rfl ?_ ?_
        · -- .1.6.2 op 2
          refine GL.make rfl rfl Wik Wik (by omega) (by omega) rfl ?_; intro g12
          refine GL.nil ?_
          refine GE.any ?_
          refine GA.branch (rs := [4]) (JOk.live (by exact Wlba) (JOk.dead (by kernel_rfl) JOk.nil)) (by kernel_rfl) (by simp) ?_
          refine GAs.cons rfl ?_ ?_
          · -- .1.6.2 op 4
            refine GL.callF rfl rfl (size_spec _ _ _ _ _) ?_
            refine GL.nil ?_
            refine GE.any ?_
            refine GA.branch (rs := [5, 7]) (JOk.dead (by kernel_rfl) (JOk.dead (by kernel_rfl) JOk.nil)) (by kernel_rfl) (by simp) ?_
            refine GAs.cons rfl ?_ ?_
            · -- .1.6.2.5 op 5
              refine GL.make rfl rfl Wik Wik (by omega) (by omega) rfl ?_; intro g15
              refine GL.nil ?_
              refine GE.any ?_
              refine GA.branch (rs := [7]) (JOk.dead (by kernel_rfl) (JOk.dead (by kernel_rfl) JOk.nil)) (by kernel_rfl) (by simp) ?_
              refine GAs.cons rfl ?_ ?_
              · -- .1.6.2.5 op 7
                refine GL.store_var1 rfl rfl rfl Wpk (by rfl) (by rfl) ?_
                refine GL.nil ?_
                refine GE.any ?_
                refine GA.take 8 #[true, true, true, true, true, true, true, true, false] rfl (by exact Ev.assign rfl) rfl rfl (by kernel_rfl) rfl (by kernel_rfl) (by kernel_rfl) (fun _ _ _ h => h) ?_
                refine GA.done (JOk.dead (by kernel_rfl) (JOk.dead (by kernel_rfl) JOk.nil)) (by kernel_rfl) ?_
                refine GE.mid ((g6, g12, g15) : Nat × Nat × Nat) trivial Wkp Wsb
              exact GAs.nil
            refine GAs.cons rfl ?_ ?_
            · -- .1.6.2.7 op 7
              refine GL.store_var1 rfl rfl rfl Wpk (by rfl) (by rfl) ?_
              refine GL.nil ?_
              refine GE.any ?_
              refine GA.branch (rs := [5]) (JOk.dead (by kernel_rfl) (JOk.dead (by kernel_rfl) JOk.nil)) (by kernel_rfl) (by simp) ?_
              refine GAs.cons rfl ?_ ?_
              · -- .1.6.2.7 op 5
                refine GL.make rfl rfl Wik Wik (by omega) (by omega) rfl ?_; intro g15
                refine GL.nil ?_
                refine GE.any ?_
                refine GA.take 8 #[true, true, true, true, true, true, true, true, false] rfl (by exact Ev.assign rfl) rfl rfl (by kernel_rfl) rfl (by kernel_rfl) (by kernel_rfl) (fun _ _ _ h => h) ?_
                refine GA.done (JOk.dead (by kernel_rfl) (JOk.dead (by kernel_rfl) JOk.nil)) (by kernel_rfl) ?_
                refine GE.mid ((g6, g12, g15) : Nat × Nat × Nat) trivial Wkp Wsb
              exact GAs.nil
            exact GAs.nil
          exact GAs.nil
        refine GAs.cons rfl ?_ ?_
        · -- .1.6.4 op 4
          refine GL.callF rfl rfl (size_spec _ _ _ _ _) ?_
          refine GL.nil ?_
          refine GE.any ?_
          refine GA.branch (rs := [2, 5]) (JOk.dead (by kernel_rfl) (JOk.dead (by kernel_rfl) JOk.nil)) (by kernel_rfl) (by simp) ?_
          refine GAs.cons rfl ?_ ?_
          · -- .1.6.4.2 op 2
            refine GL.make rfl rfl Wik Wik (by omega) (by omega) rfl ?_; intro g12
            refine GL.nil ?_
            refine GE.any ?_
            refine GA.branch (rs := [5, 7]) (JOk.dead (by kernel_rfl) (JOk.dead (by kernel_rfl) JOk.nil)) (by kernel_rfl) (by simp) ?_
            refine GAs.cons rfl ?_ ?_
            · -- .1.6.4.2.5 op 5
              refine GL.make rfl rfl Wik Wik (by omega) (by omega) rfl ?_; intro g15
              refine GL.nil ?_
              refine GE.any ?_
              refine GA.branch (rs := [7]) (JOk.dead (by kernel_rfl) (JOk.dead (by kernel_rfl) JOk.nil)) (by kernel_rfl) (by simp) ?_
              refine GAs.cons rfl ?_ ?_
              · -- .1.6.4.2.5 op 7
                refine GL.store_var1 rfl rfl rfl Wpk (by rfl) (by rfl) ?_
                refine GL.nil ?_
                refine GE.any ?_
                refine GA.take 8 #[true, true, true, true, true, true, true, true, false] rfl (by exact Ev.assign rfl) rfl rfl (by kernel_rfl) rfl (by kernel_rfl) (by kernel_rfl) (fun _ _ _ h => h) ?_
                refine GA.done (JOk.dead (by kernel_rfl) (JOk.dead (by kernel_rfl) JOk.nil)) (by kernel_rfl) ?_
                refine GE.mid ((g6, g12, g15) : Nat × Nat × Nat) trivial Wkp Wsb
              exact GAs.nil
            refine GAs.cons rfl ?_ ?_
            · -- .1.6.4.2.7 op 7
              refine GL.store_var1 rfl rfl rfl Wpk (by rfl) (by rfl) ?_
              refine GL.nil ?_
              refine GE.any ?_
              refine GA.branch (rs := [5]) (JOk.dead (by kernel_rfl) (JOk.dead (by kernel_rfl) JOk.nil)) (by kernel_rfl) (by simp) ?_
              refine GAs.cons rfl ?_ ?_
              · -- .1.6.4.2.7 op 5
                refine GL.make rfl rfl Wik Wik (by omega) (by omega) rfl ?_; intro g15
                refine GL.nil ?_
                refine GE.any ?_
                refine GA.take 8 #[true, true, true, true, true, true, true, true, false] rfl (by exact Ev.assign rfl) rfl rfl (by kernel_rfl) rfl (by kernel_rfl) (by kernel_rfl) (fun _ _ _ h => h) ?_
                refine GA.done (JOk.dead (by kernel_rfl) (JOk.dead (by kernel_rfl) JOk.nil)) (by kernel_rfl) ?_
                refine GE.mid ((g6, g12, g15) : Nat × Nat × Nat) trivial Wkp Wsb
              exact GAs.nil
            exact GAs.nil
          refine GAs.cons rfl ?_ ?_
          · -- .1.6.4.5 op 5
            refine GL.make rfl rfl Wik Wik (by omega) (by omega) rfl ?_; intro g15
            refine GL.nil ?_
            refine GE.any ?_
            refine GA.branch (rs := [2]) (JOk.dead (by kernel_rfl) (JOk.dead (by kernel_rfl) JOk.nil)) (by kernel_rfl) (by simp) ?_
            refine GAs.cons rfl ?_ ?_
            · -- .1.6.4.5 op 2
              refine GL.make rfl rfl Wik Wik (by omega) (by omega) rfl ?_; intro g12
              refine GL.nil ?_
              refine GE.any ?_
              refine GA.branch (rs := [7]) (JOk.dead (by kernel_rfl) (JOk.dead (by kernel_rfl) JOk.nil)) (by kernel_rfl) (by simp) ?_
              refine GAs.cons rfl ?_ ?_
              · -- .1.6.4.5 op 7
                refine GL.store_var1 rfl rfl rfl Wpk (by rfl) (by rfl) ?_
                refine GL.nil ?_
                refine GE.any ?_
                refine GA.take 8 #[true, true, true, true, true, true, true, true, false] rfl (by exact Ev.assign rfl) rfl rfl (by kernel_rfl) rfl (by kernel_rfl) (by kernel_rfl) (fun _ _ _ h => h) ?_
                refine GA.done (JOk.dead (by kernel_rfl) (JOk.dead (by kernel_rfl) JOk.nil)) (by kernel_rfl) ?_
                refine GE.mid ((g6, g12, g15) : Nat × Nat × Nat) trivial Wkp Wsb
              exact GAs.nil
            exact GAs.nil
          exact GAs.nil
        exact GAs.nil
      exact GAs.nil
    refine GAs.cons rfl ?_ ?_
    · -- .6 op 6
      refine GL.alloc rfl ?_; intro g6
      refine GL.nil ?_
      refine GE.any ?_
      refine GA.branch (rs := [1]) (JOk.live (by exact Wlba) (JOk.live (by exact Wlba) JOk.nil)) (by kernel_rfl) (by simp) ?_
      refine GAs.cons rfl ?_ ?_
      · -- .6 op 1
        refine GL.callF rfl rfl (size_spec _ _ _ _ _) ?_
        refine GL.nil ?_
        refine GE.any ?_
        refine GA.branch (rs := [2, 4]) (JOk.live (by exact Wlba) (JOk.dead (by kernel_rfl) JOk.nil)) (by kernel_rfl) (by simp) ?_
        refine GAs.cons rfl ?_ ?_
        · -- .6.2 op 2
          refine GL.make rfl rfl Wik Wik (by omega) (by omega) rfl ?_; intro g12
          refine GL.nil ?_
          refine GE.any ?_
          refine GA.branch (rs := [4]) (JOk.live (by exact Wlba) (JOk.dead (by kernel_rfl) JOk.nil)) (by kernel_rfl) (by simp) ?_
          refine GAs.cons rfl ?_ ?_
          · -- .6.2 op 4
            refine GL.callF rfl rfl (size_spec _ _ _ _ _) ?_
            refine GL.nil ?_
            refine GE.any ?_
            refine GA.branch (rs := [5, 7]) (JOk.dead (by kernel_rfl) (JOk.dead (by kernel_rfl) JOk.nil)) (by kernel_rfl) (by simp) ?_
            refine GAs.cons rfl ?_ ?_
            · -- .6.2.5 op 5
              refine GL.make rfl rfl Wik Wik (by omega) (by omega) rfl ?_; intro g15
              refine GL.nil ?_
              refine GE.any ?_
              refine GA.branch (rs := [7]) (JOk.dead (by kernel_rfl) (JOk.dead (by kernel_rfl) JOk.nil)) (by kernel_rfl) (by simp) ?_
              refine GAs.cons rfl ?_ ?_
              · -- .6.2.5 op 7
                refine GL.store_var1 rfl rfl rfl Wpk (by rfl) (by rfl) ?_
                refine GL.nil ?_
                refine GE.any ?_
                refine GA.take 8 #[true, true, true, true, true, true, true, true, false] rfl (by exact Ev.assign rfl) rfl rfl (by kernel_rfl) rfl (by kernel_rfl) (by kernel_rfl) (fun _ _ _ h => h) ?_
                refine GA.done (JOk.dead (by kernel_rfl) (JOk.dead (by kernel_rfl) JOk.nil)) (by kernel_rfl) ?_
                refine GE.mid ((g6, g12, g15) : Nat × Nat × Nat) trivial Wkp Wsb
              exact GAs.nil
            refine GAs.cons rfl ?_ ?_
            · -- .6.2.7 op 7
              refine GL.store_var1 rfl rfl rfl Wpk (by rfl) (by rfl) ?_
              refine GL.nil ?_
              refine GE.any ?_
              refine GA.branch (rs := [5]) (JOk.dead (by kernel_rfl) (JOk.dead (by kernel_rfl) JOk.nil)) (by kernel_rfl) (by simp) ?_
              refine GAs.cons rfl ?_ ?_
              · -- .6.2.7 op 5
                refine GL.make rfl rfl Wik Wik (by omega) (by omega) rfl ?_; intro g15
                refine GL.nil ?_
                refine GE.any ?_
                refine GA.take 8 #[true, true, true, true, true, true, true, true, false] rfl (by exact Ev.assign rfl) rfl rfl (by kernel_rfl) rfl (by kernel_rfl) (by kernel_rfl) (fun _ _ _ h => h) ?_
                refine GA.done (JOk.dead (by kernel_rfl) (JOk.dead (by kernel_rfl) JOk.nil)) (by kernel_rfl) ?_
                refine GE.mid ((g6, g12, g15) : Nat × Nat × Nat) trivial Wkp Wsb
              exact GAs.nil
            exact GAs.nil
          exact GAs.nil
        refine GAs.cons rfl ?_ ?_
        · -- .6.4 op 4
          refine GL.callF rfl rfl (size_spec _ _ _ _ _) ?_
          refine GL.nil ?_
          refine GE.any ?_
          refine GA.branch (rs := [2, 5]) (JOk.dead (by kernel_rfl) (JOk.dead (by kernel_rfl) JOk.nil)) (by kernel_rfl) (by simp) ?_
          refine GAs.cons rfl ?_ ?_
          · -- .6.4.2 op 2
            refine GL.make rfl rfl Wik Wik (by omega) (by omega) rfl ?_; intro g12
            refine GL.nil ?_
            refine GE.any ?_
            refine GA.branch (rs := [5, 7]) (JOk.dead (by kernel_rfl) (JOk.dead (by kernel_rfl) JOk.nil)) (by kernel_rfl) (by simp) ?_
            refine GAs.cons rfl ?_ ?_
            · -- .6.4.2.5 op 5
              refine GL.make rfl rfl Wik Wik (by omega) (by omega) rfl ?_; intro g15
              refine GL.nil ?_
              refine GE.any ?_
              refine GA.branch (rs := [7]) (JOk.dead (by kernel_rfl) (JOk.dead (by kernel_rfl) JOk.nil)) (by kernel_rfl) (by simp) ?_
              refine GAs.cons rfl ?_ ?_
              · -- .6.4.2.5 op 7
                refine GL.store_var1 rfl rfl rfl Wpk (by rfl) (by rfl) ?_
                refine GL.nil ?_
                refine GE.any ?_
                refine GA.take 8 #[true, true, true, true, true, true, true, true, false] rfl (by exact Ev.assign rfl) rfl rfl (by kernel_rfl) rfl (by kernel_rfl) (by kernel_rfl) (fun _ _ _ h => h) ?_
                refine GA.done (JOk.dead (by kernel_rfl) (JOk.dead (by kernel_rfl) JOk.nil)) (by kernel_rfl) ?_
                refine GE.mid ((g6, g12, g15) : Nat × Nat × Nat) trivial Wkp Wsb
              exact GAs.nil
            refine GAs.cons rfl ?_ ?_
            · -- .6.4.2.7 op 7
              refine GL.store_var1 rfl rfl rfl Wpk (by rfl) (by rfl) ?_
              refine GL.nil ?_
              refine GE.any ?_
              refine GA.branch (rs := [5]) (JOk.dead (by kernel_rfl) (JOk.dead (by kernel_rfl) JOk.nil)) (by kernel_rfl) (by simp) ?_
              refine GAs.cons rfl ?_ ?_
              · -- .6.4.2.7 op 5
                refine GL.make rfl rfl Wik Wik (by omega) (by omega) rfl ?_; intro g15
                refine GL.nil ?_
                refine GE.any ?_
                refine GA.take 8 #[true, true, true, true, true, true, true, true, false] rfl (by exact Ev.assign rfl) rfl rfl (by kernel_rfl) rfl (by kernel_rfl) (by kernel_rfl) (fun _ _ _ h => h) ?_
                refine GA.done (JOk.dead (by kernel_rfl) (JOk.dead (by kernel_rfl) JOk.nil)) (by kernel_rfl) ?_
                refine GE.mid ((g6, g12, g15) : Nat × Nat × Nat) trivial Wkp Wsb
              exact GAs.nil
            exact GAs.nil
          refine GAs.cons rfl ?_ ?_
          · -- .6.4.5 op 5
            refine GL.make rfl rfl Wik Wik (by omega) (by omega) rfl ?_; intro g15
            refine GL.nil ?_
            refine GE.any ?_
            refine GA.branch (rs := [2]) (JOk.dead (by kernel_rfl) (JOk.dead (by kernel_rfl) JOk.nil)) (by kernel_rfl) (by simp) ?_
            refine GAs.cons rfl ?_ ?_
            · -- .6.4.5 op 2
              refine GL.make rfl rfl Wik Wik (by omega) (by omega) rfl ?_; intro g12
              refine GL.nil ?_
              refine GE.any ?_
              refine GA.branch (rs := [7]) (JOk.dead (by kernel_rfl) (JOk.dead (by kernel_rfl) JOk.nil)) (by kernel_rfl) (by simp) ?_
              refine GAs.cons rfl ?_ ?_
              · -- .6.4.5 op 7
                refine GL.store_var1 rfl rfl rfl Wpk (by rfl) (by rfl) ?_
                refine GL.nil ?_
                refine GE.any ?_
                refine GA.take 8 #[true, true, true, true, true, true, true, true, false] rfl (by exact Ev.assign rfl) rfl rfl (by kernel_rfl) rfl (by kernel_rfl) (by kernel_rfl) (fun _ _ _ h => h) ?_
                refine GA.done (JOk.dead (by kernel_rfl) (JOk.dead (by kernel_rfl) JOk.nil)) (by kernel_rfl) ?_
                refine GE.mid ((g6, g12, g15) : Nat × Nat × Nat) trivial Wkp Wsb
              exact GAs.nil
            exact GAs.nil
          exact GAs.nil
        exact GAs.nil
      exact GAs.nil
    exact GAs.nil
  ·
    rintro ⟨g6, g12, g15⟩ _
    dsimp only
    refine GC.seq ?_
    refine GC.seq ?_
    refine GC.region ?_
    refine GL.v Wfa ?_
    refine GL.v Wlb ?_
    refine GL.v Wln ?_
    refine GL.v Wmv ?_
    refine GL.nil ?_
    refine GE.seq ?_
    refine GC.block ?_
    -- loop 1: carried slots [19]
    refine GC.rows0 ?_
    refine GC.loopK (α := Nat × List LiM) (fun x => x.1 ≤ ms.length ∧ x.2.length = x.1 ∧ li x.2 = (List.range x.1).map (depAt (gr ms) xs)) (fun x => [(19, .int .i64 x.1)]) [(1, _), (6, _), (7, _), (17, _), (18, _)] (fun x => row intE (some ⟨g12, 0, none⟩) ms.length (upL ms.length x.1 (mean (gr ms) xs) 0) :: row slE (some ⟨g15, 0, none⟩) ms.length (x.2 ++ List.replicate (ms.length - x.1) ⟨none, 0, []⟩) :: rowsA x.2 :: blk g6 26 [.slice (some ⟨g12, 0, none⟩) ms.length ms.length] :: blk g2 25 [.slice A ms.length c] :: L) (fun x => ms.length - x.1) (0, []) Wkp (by dsimp only; rw [upL_zero]; exact Wsb) ⟨Nat.zero_le _, rfl, rfl⟩ ?_
    rintro ⟨i, ls⟩ ⟨hi, hls, hli⟩
    dsimp only at hi hls hli ⊢
    refine GC.seq ?_
    refine GC.region ?_
    refine GL.v Wls ?_
    refine GL.nil ?_
    refine GE.seq ?_
    refine GC.seq ?_
    refine GC.ifs (fun h1 => ?_) (fun h1 => ?_)
    · -- T
      have hil : i < ms.length := by omega
      have hP := hG.parts i hil
      have hig : i < (gr ms).length := by simpa using hil
      have hul : (upL ms.length i (mean (gr ms) xs) 0).length = ms.length := upL_length _ _ _ _
      have hfl : (ls ++ List.replicate (ms.length - i) (⟨none, 0, []⟩ : LiM)).length = ms.length := by simp; omega
      have hrs : (List.range (i + 1)).map (depAt (gr ms) xs) = (List.range i).map (depAt (gr ms) xs) ++ [depAt (gr ms) xs i] := by rw [List.range_succ, List.map_append]; rfl
      refine GC.skip ?_
      refine GE.seq ?_
      refine GC.seq ?_
      refine GC.block ?_
      refine GC.seq ?_
      refine GC.region ?_
      refine GL.v Wmv ?_
      refine GL.v Wix ?_
      refine GL.v Wle ?_
      refine GL.alloc rfl ?_; intro g9
      refine GL.v Wag ?_
      refine GL.store_varN rfl rfl rfl Wpk (by rfl) (by rfl) (by rfl) ?_
      refine GL.nil ?_
      refine GE.seq ?_
      refine GC.seq ?_
      refine GC.seq ?_
      refine GC.region ?_
      refine GL.v Wfa ?_
      refine GL.v Wlb ?_
      refine GL.v Weq ?_
      refine GL.nil ?_
      refine GE.seq ?_
      refine GC.ifs (fun h2 => ?_) (fun h2 => ?_)
      · -- TT
        have hml := mean_last (xs := xs) hig
        rw [if_pos (by rw [gr_get]; exact h2)] at hml
        refine GC.seq ?_
        refine GC.region_tail 7 mixed (by kernel_rfl) ?_
        refine GS.val (by exact Wlb) rfl rfl ?_
        refine GS.val (by exact EvP.r (Ev.move rfl)) rfl rfl ?_
        refine GS.val (by exact EvP.r (Ev.move rfl)) rfl rfl ?_
        refine GS.val (by exact EvP.r (Ev.move rfl)) rfl rfl ?_
        refine GS.val (by exact Wix) rfl rfl ?_
        refine GS.val (by exact Wle) rfl rfl ?_
        refine GS.val (by exact Wix) rfl rfl ?_
        refine GS.nil ?_
        refine GL.store_el rfl rfl Wpk rfl rfl rfl (by first | omega | (simp; done) | (simp; omega)) ?_
        refine GL.nil ?_
        refine GE.seq ?_
        refine GC.exit ?_
        refine GE.seq_exit ?_
        refine GE.block_exit ?_
        refine GE.seq ?_
        refine GC.region ?_
        refine GL.v Wad ?_
        refine GL.v Wmv ?_
        refine GL.nil ?_
        -- round of loop 1, path TT
        rw [at0_eq, ← hml, upL_set hil]
        refine GE.state (fun _ hs => hs.empty intE none) ?_
        refine GE.rows_snoc ⟨none, 0, []⟩ Wpk Wpk ?_
        rw [fill2_same _ _ _ _ hil]
        refine GE.round (i + 1, ls ++ [⟨none, 0, []⟩]) ⟨by dsimp only; omega, by simp [hls], ?_⟩ (by dsimp only; omega) Wkp Wsb
        dsimp only
        rw [hrs, ← hli, depAt_cell hig (by rw [gr_get]; exact h2)]
        simp [li]
      · -- TF
        have hk0 : (gr ms)[i].kind ≠ 0 := by rw [gr_get]; exact h2
        have hnd := goodNd_der hV hig hk0
        rw [gr_get] at hnd
        have hvp : ValidP ms[i].parts := hnd.2.1
        have hfit := hvp.fit
        have hro : ReadsOk (gr ms) i ms[i].parts := hnd.2.2
        have hlow : ∀ n, HasRead ms[i].parts n → 0 ≤ n ∧ n < i := by
          rintro n ⟨p, hp, hk, rfl⟩
          have h1 := hfit p hp hk
          exact ⟨h1.1, (hro _ (mem_mayL.2 ⟨h1, p, hp, hk, rfl⟩)).1⟩
        have hva : ∀ k : Nat, k < i → valF (upL ms.length i (mean (gr ms) xs) 0) (k : Int) = mean (gr ms) xs k := fun k hk => upL_val hk hi
        have hmv : ∀ p ∈ ms[i].parts, p.kind = 1 → InMod (valF (upL ms.length i (mean (gr ms) xs) 0) p.n) := by
          intro p hp hk
          have h1 := hlow p.n ⟨p, hp, hk, rfl⟩
          have h2 := hva p.n.toNat (by omega)
          rw [show ((p.n.toNat : Nat) : Int) = p.n by omega] at h2
          rw [h2]
          exact mean_in hV hK _ (by omega)
        have hev : valL ms[i].parts (valF (upL ms.length i (mean (gr ms) xs) 0)) = mean (gr ms) xs i := by
          have := mean_eq hV hig hk0 hva
          rw [gr_get] at this
          exact this
        have hrd : readL ms[i].parts (valF (upL ms.length i (mean (gr ms) xs) 0)) = depAt (gr ms) xs i := by
          have := depAt_run hV hig hk0 hva
          rw [gr_get] at this
          exact this
        refine GC.skip ?_
        refine GE.seq ?_
        refine GC.region_any #[false, false, false, false, false, false, false, true, false, false, false, false, true, false, true] mixed ?_
        refine GA.read 0 #[false, true, true, true, true, true, true, true, true, true, true, false, false, false, false] rfl (by exact Wlb) rfl rfl (by kernel_rfl) rfl (by kernel_rfl) (by kernel_rfl) (fun _ _ _ h => h) ?_
        refine GA.take 1 #[true, false, true, true, true, true, true, true, true, true, true, false, false, false, false] rfl (by exact Ev.move rfl) rfl rfl (by kernel_rfl) rfl (by kernel_rfl) (by kernel_rfl) (fun _ _ _ h => h) ?_
        refine GA.take 2 #[true, true, false, true, true, true, true, true, true, true, true, true, true, false, false] rfl (by exact Ev.move rfl) rfl rfl (by kernel_rfl) rfl (by kernel_rfl) (by kernel_rfl) (fun _ _ _ h => h) ?_
        refine GA.take 3 #[true, true, true, false, true, true, true, true, true, true, true, true, true, false, false] rfl (by exact Ev.move rfl) rfl rfl (by kernel_rfl) rfl (by kernel_rfl) (by kernel_rfl) (fun _ _ _ h => h) ?_
        refine GA.take 4 #[true, true, true, true, false, false, true, false, false, false, false, false, false, false, false] rfl (by exact Ev.fieldAddr rfl) rfl rfl (by kernel_rfl) rfl (by kernel_rfl) (by kernel_rfl) (fun _ _ _ h => h) ?_
        refine GA.read 5 #[true, true, true, true, true, false, true, false, false, false, false, false, false, false, false] rfl (by exact Wlb1) rfl rfl (by kernel_rfl) rfl (by kernel_rfl) (by kernel_rfl) (fun _ _ _ h => h) ?_
        refine GA.take 6 #[true, true, true, true, true, true, false, false, false, false, false, false, false, false, false] rfl (by exact Ev.makeFunc rfl rfl) rfl rfl (by kernel_rfl) rfl (by kernel_rfl) (by kernel_rfl) (fun _ _ _ h => h) ?_
        refine GA.branch (rs := [7]) (JOk.live (by exact Wlb1) (JOk.live (by exact Wlb) JOk.nil)) (by kernel_rfl) (by simp) ?_
        refine GAs.cons rfl ?_ ?_
        · -- TF op 7
          refine GL.call rfl rfl (run_spec w0 _ ms[i].a ms[i].c ms[i].parts (hP.imp Wim) hvp _ _ _ (valF (upL ms.length i (mean (gr ms) xs) 0)) (fun Y hY n hn => meaning1_spec _ _ _ g6 (some ⟨g12, 0, none⟩) ms.length ms.length (upL ms.length i (mean (gr ms) xs) 0) ((BlkRd.of_pick Wpk).imp hY) ((Rd.of_pick Wpk).imp hY) hul.symm (hlow n hn).1 (by have := (hlow n hn).2; omega)) hmv) ?_
          rintro _ _ ⟨Br, rfl, rfl⟩
          rw [hev, hrd]
          refine GL.nil ?_
          refine GE.any ?_
          refine GA.take 8 #[true, true, true, true, true, true, true, true, false, false, false, false, false, false, false] rfl (by exact Ev.move rfl) rfl rfl (by kernel_rfl) rfl (by kernel_rfl) (by kernel_rfl) (fun _ _ _ h => h) ?_
          refine GA.take 9 #[true, true, true, true, true, true, true, true, true, false, true, false, false, false, false] rfl (by exact Ev.extract rfl rfl) rfl rfl (by kernel_rfl) rfl (by kernel_rfl) (by kernel_rfl) (fun _ _ _ h => h) ?_
          refine GA.take 10 #[true, true, true, true, true, true, true, true, true, true, false, true, true, false, false] rfl (by exact Ev.extract rfl rfl) rfl rfl (by kernel_rfl) rfl (by kernel_rfl) (by kernel_rfl) (fun _ _ _ h => h) ?_
          refine GA.read 11 #[true, true, true, true, true, true, true, true, true, true, true, false, false, false, false] rfl (by exact Wix) rfl rfl (by kernel_rfl) rfl (by kernel_rfl) (by kernel_rfl) (fun _ _ _ h => h) ?_
          refine GA.branch (rs := [12]) (JOk.live (by exact Wix) (JOk.dead (by kernel_rfl) (JOk.live (by exact Wlb) JOk.nil))) (by kernel_rfl) (by simp) ?_
          refine GAs.cons rfl ?_ ?_
          · -- TF op 12
            refine GL.store_el rfl rfl Wpk rfl rfl rfl (by first | omega | (simp; done) | (simp; omega)) ?_
            refine GL.nil ?_
            refine GE.any ?_
            refine GA.read 13 #[true, true, true, true, true, true, true, true, true, true, true, true, true, false, false] rfl (by exact Wix) rfl rfl (by kernel_rfl) rfl (by kernel_rfl) (by kernel_rfl) (fun _ _ _ h => h) ?_
            refine GA.branch (rs := [14]) (JOk.live (by exact Wix) (JOk.dead (by kernel_rfl) (JOk.dead (by kernel_rfl) (JOk.dead (by kernel_rfl) JOk.nil)))) (by kernel_rfl) (by simp) ?_
            refine GAs.cons rfl ?_ ?_
            · -- TF op 14
              refine GL.store_el (v' := (⟨Br, (depAt (gr ms) xs i).length, depAt (gr ms) xs i⟩ : LiM)) rfl rfl Wpk rfl rfl rfl Wom ?_
              refine GL.nil ?_
              refine GE.any ?_
              refine GA.done (JOk.dead (by kernel_rfl) (JOk.dead (by kernel_rfl) (JOk.dead (by kernel_rfl) (JOk.dead (by kernel_rfl) JOk.nil)))) (by kernel_rfl) ?_
              refine GE.block ?_
              refine GE.seq ?_
              refine GC.region ?_
              refine GL.v Wad ?_
              refine GL.v Wmv ?_
              refine GL.nil ?_
              -- round of loop 1, path TF
              rw [upL_set hil, fill2_set _ _ _ _ _ hls hil]
              refine GE.rows_snoc ⟨Br, (depAt (gr ms) xs i).length, depAt (gr ms) xs i⟩ Wpk Wpk ?_
              refine GE.round (i + 1, ls ++ [⟨Br, (depAt (gr ms) xs i).length, depAt (gr ms) xs i⟩]) ⟨by dsimp only; omega, by simp [hls], ?_⟩ (by dsimp only; omega) Wkp Wsb
              dsimp only
              rw [hrs, ← hli]
              simp [li]
            exact GAs.nil
          exact GAs.nil
        exact GAs.nil
    · -- F
      have hie : i = ms.length := by omega
      subst hie
      rw [Nat.sub_self, List.replicate_zero, List.append_nil, upL_full (Nat.le_refl _), show (List.range ms.length).map (mean (gr ms) xs) = meanL (gr ms) xs by rw [← meanL_map, gr_length]]
      have hml := meanL_length (gr ms) xs
      rw [gr_length] at hml
      refine GC.exit ?_
      refine GE.seq_exit ?_
      refine GE.loop_exit ?_
      refine GE.block_exit ?_
      refine GE.seq ?_
      refine GC.seq ?_
      refine GC.region ?_
      refine GL.v Wlb ?_
      refine GL.v Wmv ?_
      refine GL.v Wag ?_
      refine GL.v Wag ?_
      refine GL.nil ?_
      refine GE.seq ?_
      refine GC.ret ?_
      -- returns, path F
      refine GE.ret_tmp2 (L' := row intE (some ⟨g12, 0, none⟩) ms.length (meanL (gr ms) xs) :: row slE (some ⟨g15, 0, none⟩) ms.length ls :: rowsA ls :: L) (.inl rfl) rfl rfl rfl Wsb ?_
      exact ⟨_, _, ls, by rw [hli, depsL, gr_length], by rw [hml, hls], rfl⟩
theorem iMeaningOf_spec (w0 : World) (L : List Asn) (A : Option Addr) (c : Nat) (ms : List NdM) (hG : RdG w0 L A c ms) (B : Option Addr) (d : Nat) (xs : List Int) (hX : Rd w0 L intE B d xs) (hl : ms.length ≤ 1100000) (hx : xs.length ≤ 1100000) :
    Tr Try.prog 15 #[.agg #[.slice A ms.length c], .slice B xs.length d] w0 L (fun v L' => ∃ D e, v = .slice D (meanOfL (gr ms) xs).length e ∧ L' = row intE D e (meanOfL (gr ms) xs) :: L) := by
  refine Tr.enter (args := [.agg #[.slice A ms.length c], .slice B xs.length d]) Try.func15 Try.ntmps15 rfl rfl ?_
  refine GC.seq ?_
  refine GC.region ?_
  refine GL.box_agg rfl rfl ?_; intro g2
  refine GL.v Wag ?_
  refine GL.nil ?_
  refine GE.seq ?_
  refine GC.seq ?_
  refine GC.seq ?_
  refine GC.region ?_
  refine GL.v Wlba ?_
  refine GL.v Wmv ?_
  refine GL.callF rfl rfl (iValidCells_spec _ _ _ _ _ (by first | assumption | exact RdG.imp (by assumption) Wim | exact RdG.of_pick Wpk Wpk) _ _ _ Wrd (by first | omega | exact SizeG.le (by assumption)) Wom) ?_
  refine GL.v Wnt ?_
  refine GL.nil ?_
  refine GE.seq ?_
  refine GC.ifs (fun h1 => ?_) (fun h1 => ?_)
  · -- T
    refine GC.seq ?_
    refine GC.region ?_
    refine GL.v Wag ?_
    refine GL.nil ?_
    refine GE.seq ?_
    refine GC.ret ?_
    refine GE.seq_ret ?_
    -- returns, path T
    refine GE.state (fun _ hs => hs.empty intE none) ?_
    refine GE.ret_tmp (L' := row intE none 0 [] :: L) (.inl rfl) rfl rfl Wsb ?_
    rw [meanOfL_no h1]
    exact ⟨none, 0, rfl, rfl⟩
  · -- F
    refine GC.skip ?_
    refine GE.seq ?_
    refine GC.seq ?_
    refine GC.region ?_
    refine GL.v Wlba ?_
    refine GL.v Wmv ?_
    refine GL.call rfl rfl (meaning_spec w0 _ A c ms (by first | assumption | exact RdG.imp (by assumption) Wim | exact RdG.of_pick Wpk Wpk) B d xs (hX.imp Wim) h1) ?_
    rintro _ _ ⟨D, E, ls, hls, rfl, rfl⟩
    refine GL.v Wmv ?_
    refine GL.v Wxt ?_
    refine GL.v Wxt ?_
    refine GL.v Wag ?_
    refine GL.v Wag ?_
    refine GL.nil ?_
    refine GE.seq ?_
    refine GC.seq ?_
    refine GC.region ?_
    refine GL.v Wmv ?_
    refine GL.v Wag ?_
    refine GL.nil ?_
    refine GE.seq ?_
    refine GC.ret ?_
    -- returns, path F
    refine GE.ret_tmp (L' := row intE D ms.length (meanL (gr ms) xs) :: L) (.inl rfl) rfl rfl Wsb ?_
    rw [meanOfL_yes h1]
    exact ⟨_, _, rfl, rfl⟩
theorem ChangedBy1_spec (w0 : World) (L : List Asn) (g h : Nat) (B D : Option Addr) (d e : Nat) (xs ys : List Int) (hX : Rd w0 L intE B d xs) (hY : Rd w0 L intE D e ys) (hb : BlkRd w0 L g 26 [.slice B xs.length d]) (hb2 : BlkRd w0 L h 26 [.slice D ys.length e]) (i : Nat) (hi : i < xs.length) (hj : i < ys.length) :
    Tr Try.prog 88 #[.int .i64 i, .pointer (some ⟨g, 0, none⟩), .pointer (some ⟨h, 0, none⟩)] w0 L (fun v L' => v = .bool (decide (xs[i] ≠ ys[i])) ∧ L' = L) := by
  refine Tr.enter (args := [.int .i64 i, .pointer (some ⟨g, 0, none⟩), .pointer (some ⟨h, 0, none⟩)]) Try.func88 Try.ntmps88 rfl rfl ?_
  refine GC.seq ?_
  refine GC.region ?_
  refine GL.v Wag ?_
  refine GL.nil ?_
  refine GE.seq ?_
  refine GC.seq ?_
  refine GC.region_quiet mixed (by kernel_rfl) ?_
  refine GL.v Wlb ?_
  refine GL.v Wmv ?_
  refine GL.v Wix ?_
  refine GL.v Wle ?_
  refine GL.v Wlb ?_
  refine GL.v Wmv ?_
  refine GL.v Wix ?_
  refine GL.v Wle ?_
  refine GL.v Wnq ?_
  refine GL.v Wag ?_
  refine GL.nil ?_
  refine GE.seq ?_
  refine GC.ret ?_
  -- returns, path 
  refine GE.ret_tmp (L' := L) (.inl rfl) rfl rfl Wsb ?_
  exact ⟨by simp, rfl⟩
theorem iChangedBy_spec (w0 : World) (L : List Asn) (A : Option Addr) (c : Nat) (ms : List NdM) (hG : RdG w0 L A c ms) (B : Option Addr) (d : Nat) (xs : List Int) (hX : Rd w0 L intE B d xs) (D : Option Addr) (e : Nat) (ys : List Int) (hY : Rd w0 L intE D e ys) (hl : ms.length ≤ 1100000) (hx : xs.length ≤ 1100000) (hy : ys.length ≤ 1100000) :
    Tr Try.prog 38 #[.agg #[.slice A ms.length c], .slice B xs.length d, .slice D ys.length e] w0 L (fun v L' => ∃ E f, v = .slice E (diffOfL (gr ms) xs ys).length f ∧ L' = row intE E f (diffOfL (gr ms) xs ys) :: L) := by
  refine Tr.enter (args := [.agg #[.slice A ms.length c], .slice B xs.length d, .slice D ys.length e]) Try.func38 Try.ntmps38 rfl rfl ?_
  refine GC.seq ?_
  refine GC.region ?_
  refine GL.box_agg rfl rfl ?_; intro g3
  refine GL.v Wag ?_
  refine GL.nil ?_
  refine GE.seq ?_
  refine GC.seq ?_
  refine GC.seq ?_
  refine GC.region ?_
  refine GL.v Wlba ?_
  refine GL.v Wmv ?_
  refine GL.callF rfl rfl (iValidCells_spec _ _ _ _ _ (by first | assumption | exact RdG.imp (by assumption) Wim | exact RdG.of_pick Wpk Wpk) _ _ _ Wrd (by first | omega | exact SizeG.le (by assumption)) Wom) ?_
  refine GL.v Wnt ?_
  refine GL.v Wmv ?_
  refine GL.gs (fun h1 => ?_) (fun h1 => ?_)
  · -- t
    refine GL.unwant rfl rfl rfl rfl ?_
    refine GL.unwant rfl rfl rfl rfl ?_
    refine GL.unwant rfl rfl rfl rfl ?_
    refine GL.unwant rfl rfl rfl rfl ?_
    refine GL.v Wpt ?_
    refine GL.nil ?_
    refine GE.seq ?_
    refine GC.cond_true rfl ?_
    refine GC.seq ?_
    refine GC.region ?_
    refine GL.v Wag ?_
    refine GL.nil ?_
    refine GE.seq ?_
    refine GC.ret ?_
    refine GE.seq_ret ?_
    -- returns, path t
    refine GE.state (fun _ hs => hs.empty intE none) ?_
    refine GE.ret_tmp (L' := row intE none 0 [] :: L) (.inl rfl) rfl rfl Wsb ?_
    rw [diffOfL_no (.inl h1)]
    exact ⟨none, 0, rfl, rfl⟩
  · -- f
    refine GL.want rfl rfl ?_
    refine GL.v Wlba ?_
    refine GL.want rfl rfl ?_
    refine GL.v Wmv ?_
    refine GL.want rfl rfl ?_
    refine GL.callF rfl rfl (iValidCells_spec _ _ _ _ _ (by first | assumption | exact RdG.imp (by assumption) Wim | exact RdG.of_pick Wpk Wpk) _ _ _ Wrd (by first | omega | exact SizeG.le (by assumption)) Wom) ?_
    refine GL.want rfl rfl ?_
    refine GL.v Wnt ?_
    refine GL.v Wpf ?_
    refine GL.nil ?_
    refine GE.seq ?_
    refine GC.ifs (fun h2 => ?_) (fun h2 => ?_)
    · -- fT
      refine GC.seq ?_
      refine GC.region ?_
      refine GL.v Wag ?_
      refine GL.nil ?_
      refine GE.seq ?_
      refine GC.ret ?_
      refine GE.seq_ret ?_
      -- returns, path fT
      refine GE.state (fun _ hs => hs.empty intE none) ?_
      refine GE.ret_tmp (L' := row intE none 0 [] :: L) (.inl rfl) rfl rfl Wsb ?_
      rw [diffOfL_no (.inr h2)]
      exact ⟨none, 0, rfl, rfl⟩
    · -- fF
      refine GC.skip ?_
      refine GE.seq ?_
      refine GC.seq ?_
      refine GC.region ?_
      refine GL.v Wlba ?_
      refine GL.v Wmv ?_
      refine GL.call rfl rfl (meaning_spec w0 _ A c ms (by first | assumption | exact RdG.imp (by assumption) Wim | exact RdG.of_pick Wpk Wpk) B d xs (hX.imp Wim) h1) ?_
      rintro _ _ ⟨D1, E1, ls1, hls1, rfl, rfl⟩
      refine GL.v Wmv ?_
      refine GL.v Wxt ?_
      refine GL.v Wxt ?_
      refine GL.alloc rfl ?_; intro g7
      refine GL.store_var1 rfl rfl rfl Wpk (by rfl) (by rfl) ?_
      refine GL.v Wag ?_
      refine GL.nil ?_
      refine GE.seq ?_
      refine GC.seq ?_
      refine GC.region ?_
      refine GL.v Wlba ?_
      refine GL.v Wmv ?_
      refine GL.call rfl rfl (meaning_spec w0 _ A c ms (by first | assumption | exact RdG.imp (by assumption) Wim | exact RdG.of_pick Wpk Wpk) D e ys (hY.imp Wim) h2) ?_
      rintro _ _ ⟨D2, E2, ls2, hls2, rfl, rfl⟩
      have hm1 := meanL_length (gr ms) xs
      have hm2 := meanL_length (gr ms) ys
      rw [gr_length] at hm1 hm2
      refine GL.v Wmv ?_
      refine GL.v Wxt ?_
      refine GL.v Wxt ?_
      refine GL.alloc rfl ?_; intro g9
      refine GL.store_var1 rfl rfl rfl Wpk (by rfl) (by rfl) ?_
      refine GL.v Wag ?_
      refine GL.nil ?_
      refine GE.seq ?_
      refine GC.seq ?_
      refine GC.region ?_
      refine GL.v Wlba ?_
      refine GL.v (by exact EvP.r (Ev.makeFunc rfl rfl)) ?_
      refine GL.call rfl rfl (which_spec w0 _ A ms.length c hl 88 #[] #[.pointer (some ⟨g7, 0, none⟩), .pointer (some ⟨g9, 0, none⟩)] (fun i => decide (mean (gr ms) xs i ≠ mean (gr ms) ys i)) (fun X hX i hi => by have := ChangedBy1_spec w0 X g7 g9 D1 D2 ms.length ms.length (meanL (gr ms) xs) (meanL (gr ms) ys) ((Rd.of_pick Wpk).imp hX) ((Rd.of_pick Wpk).imp hX) ((BlkRd.of_pick Wpk).imp hX) ((BlkRd.of_pick Wpk).imp hX) i (by omega) (by omega); rw [meanL_get, meanL_get] at this; exact this)) ?_
      rintro _ _ ⟨F, rfl, rfl⟩
      rw [show (whichL ms.length fun i => decide (mean (gr ms) xs i ≠ mean (gr ms) ys i)) = diffL (gr ms) xs ys by rw [diffL, gr_length]]
      refine GL.v Wag ?_
      refine GL.nil ?_
      refine GE.seq ?_
      refine GC.ret ?_
      -- returns, path fF
      refine GE.ret_tmp (L' := row intE F (diffL (gr ms) xs ys).length (diffL (gr ms) xs ys) :: L) (.inl rfl) rfl rfl Wsb ?_
      rw [diffOfL_yes h1 h2]
      exact ⟨_, _, rfl, rfl⟩
/-! the reference -/
theorem smeaning_spec (w0 : World) (L : List Asn) (A : Option Addr) (c : Nat) (ms : List NdM) (hG : RdG w0 L A c ms) (B : Option Addr) (d : Nat) (xs : List Int) (hX : Rd w0 L intE B d xs) (hC : cellsV (gr ms) xs = true) :
    Tr Try.prog 69 #[.agg #[.slice A ms.length c], .slice B xs.length d] w0 L (fun v L' => ∃ D e, v = .slice D (meanL (gr ms) xs).length e ∧ L' = row intE D e (meanL (gr ms) xs) :: L) := by
  have hN := hG.nodes
  have hV := (cellsV_iff.1 hC).1
  have hK := (cellsV_iff.1 hC).2
  have hl10 : ms.length ≤ 10 := by have := hV.1; simpa using this
  have hxl : xs.length = ms.length := by have := hK.1; simpa using this
  refine Tr.enter (args := [.agg #[.slice A ms.length c], .slice B xs.length d]) Try.func69 Try.ntmps69 rfl rfl ?_
  refine GC.seq ?_
  refine GC.region ?_
  refine GL.box_agg rfl rfl ?_; intro g2
  refine GL.v Wag ?_
  refine GL.nil ?_
  refine GE.seq ?_
  refine GC.seq ?_
  refine GC.region ?_
  refine GL.buildSlice rfl (by first | exact bsInt0 | exact bsInt1 _ | exact bsInt2 _ _ | exact bsInt3 _ _ _ | exact bsInt4 _ _ _ _ | exact bsInt5 _ _ _ _ _ | exact bsInt6 _ _ _ _ _ _ | exact bsInt7 _ _ _ _ _ _ _ | exact bsInt8 _ _ _ _ _ _ _ _ | exact bsInt9 _ _ _ _ _ _ _ _ _ | exact bsInt10 _ _ _ _ _ _ _ _ _ _ | exact bsPart0 | exact bsPart1 ⟨_, _, _, _, _⟩ | exact bsNode1 ⟨_, _, _, _⟩ | exact bsPtr3 _ _ _ | exact bsSl0 | exact bsSl1 ⟨_, _, _⟩) rfl (by decide) rfl ?_; intro g8
  refine GL.v Wag ?_
  refine GL.nil ?_
  refine GE.seq ?_
  refine GC.seq ?_
  refine GC.seq ?_
  refine GC.region ?_
  refine GL.v Wag ?_
  refine GL.nil ?_
  refine GE.seq ?_
  refine GC.block ?_
  -- loop 1: carried slots [5, 6]
  refine GC.loopK (α := Nat × Option Addr × Nat) (fun x => x.1 ≤ ms.length) (fun x => [(5, .slice x.2.1 (meanUp (gr ms) xs x.1).length x.2.2), (6, .int .i64 x.1)]) [(1, _), (2, _)] (fun x => row intE x.2.1 x.2.2 (meanUp (gr ms) xs x.1) :: blk g2 25 [.slice A ms.length c] :: L) (fun x => ms.length - x.1) (0, some ⟨g8, 0, none⟩, 0) Wkp Wsb (Nat.zero_le _) ?_
  rintro ⟨i, D, e⟩ hi
  dsimp only at hi ⊢
  have hul := meanUp_length (gr ms) xs i
  refine GC.seq ?_
  refine GC.seq ?_
  refine GC.region ?_
  refine GL.v Wmv ?_
  refine GL.v Wfa ?_
  refine GL.v Wlb ?_
  refine GL.v Wln ?_
  refine GL.v Wls ?_
  refine GL.nil ?_
  refine GE.seq ?_
  refine GC.ifs (fun h1 => ?_) (fun h1 => ?_)
  · -- T
    have hil : i < ms.length := by omega
    have hP := hG.parts i hil
    have hig : i < (gr ms).length := by simpa using hil
    refine GC.skip ?_
    refine GE.seq ?_
    refine GC.seq ?_
    refine GC.block ?_
    refine GC.seq ?_
    refine GC.region ?_
    refine GL.v Wmv ?_
    refine GL.v Wmv ?_
    refine GL.v Wix ?_
    refine GL.v Wle ?_
    refine GL.v Wag ?_
    refine GL.nil ?_
    refine GE.seq ?_
    refine GC.seq ?_
    refine GC.seq ?_
    refine GC.region ?_
    refine GL.v Wfa ?_
    refine GL.v Wlb ?_
    refine GL.v Wmv ?_
    refine GL.v Wix ?_
    refine GL.v Wfa ?_
    refine GL.v Wlef ?_
    refine GL.v Wnq ?_
    refine GL.nil ?_
    refine GE.seq ?_
    refine GC.ifs (fun h2 => ?_) (fun h2 => ?_)
    · -- TT
      have hk0 : (gr ms)[i].kind ≠ 0 := by rw [gr_get]; exact h2
      have hfu := mean_fitUp hV hK hig hk0
      rw [gr_get] at hfu
      have hfu2 : FitV ms[i].parts (meanUp (gr ms) xs i) := hfu
      have hmd := meanUp_der (xs := xs) hig hk0
      rw [gr_get] at hmd
      have hmd2 : meanUp (gr ms) xs i ++ [valL ms[i].parts (valF (meanUp (gr ms) xs i))] = meanUp (gr ms) xs (i + 1) := hmd
      refine GC.region ?_
      refine GL.v Wfa ?_
      refine GL.v Wlb ?_
      refine GL.v Wmv ?_
      refine GL.v Wix ?_
      refine GL.v Wfa ?_
      refine GL.v Wlef1 ?_
      refine GL.v Wmv ?_
      refine GL.call rfl rfl (srun_spec _ _ _ _ _ Wrd _ _ _ Wrd (by assumption)) ?_
      rintro _ _ ⟨B35, d35, rfl, rfl⟩
      refine GL.v Wmv ?_
      refine GL.v Wxt ?_
      refine GL.v Wxt ?_
      refine GL.v Wag ?_
      refine GL.nil ?_
      refine GE.seq ?_
      refine GC.region ?_
      refine GL.v Wmv ?_
      refine GL.v Wmv ?_
      refine GL.buildSlice rfl (by first | exact bsInt0 | exact bsInt1 _ | exact bsInt2 _ _ | exact bsInt3 _ _ _ | exact bsInt4 _ _ _ _ | exact bsInt5 _ _ _ _ _ | exact bsInt6 _ _ _ _ _ _ | exact bsInt7 _ _ _ _ _ _ _ | exact bsInt8 _ _ _ _ _ _ _ _ | exact bsInt9 _ _ _ _ _ _ _ _ _ | exact bsInt10 _ _ _ _ _ _ _ _ _ _ | exact bsPart0 | exact bsPart1 ⟨_, _, _, _, _⟩ | exact bsNode1 ⟨_, _, _, _⟩ | exact bsPtr3 _ _ _ | exact bsSl0 | exact bsSl1 ⟨_, _, _⟩) rfl (by decide) rfl ?_; intro g40
      first | (refine GL.append rfl rfl Wpk (by assumption) Wim (by first | rfl | (simp; done) | (simp; omega)) (by first | rfl | (simp; done) | (simp; omega)) (by first | omega | (simp; omega)) (by first | omega | (simp; omega)) rfl ?_; intro A41 c41) | (refine GL.append rfl rfl Wpk (Rd.of_pick Wpk) Imp.refl (by first | rfl | (simp; done) | (simp; omega)) (by first | rfl | (simp; done) | (simp; omega)) (by first | omega | (simp; omega)) (by first | omega | (simp; omega)) rfl ?_; intro A41 c41)
      refine GL.v Wag ?_
      refine GL.nil ?_
      refine GE.block ?_
      refine GE.seq ?_
      refine GC.region ?_
      refine GL.v Wmv ?_
      refine GL.v Wad ?_
      refine GL.v Wag ?_
      refine GL.nil ?_
      -- round of loop 1, path TT
      rw [hmd2]
      refine GE.round (i + 1, _, _) (by dsimp only; omega) (by dsimp only; omega) Wkp Wsb
    · -- TF
      have hmc := meanUp_cell (xs := xs) hig (by rw [gr_get]; exact h2)
      refine GC.skip ?_
      refine GE.seq ?_
      refine GC.region ?_
      refine GL.v Wmv ?_
      refine GL.v Wmv ?_
      refine GL.buildSlice rfl (by first | exact bsInt0 | exact bsInt1 _ | exact bsInt2 _ _ | exact bsInt3 _ _ _ | exact bsInt4 _ _ _ _ | exact bsInt5 _ _ _ _ _ | exact bsInt6 _ _ _ _ _ _ | exact bsInt7 _ _ _ _ _ _ _ | exact bsInt8 _ _ _ _ _ _ _ _ | exact bsInt9 _ _ _ _ _ _ _ _ _ | exact bsInt10 _ _ _ _ _ _ _ _ _ _ | exact bsPart0 | exact bsPart1 ⟨_, _, _, _, _⟩ | exact bsNode1 ⟨_, _, _, _⟩ | exact bsPtr3 _ _ _ | exact bsSl0 | exact bsSl1 ⟨_, _, _⟩) rfl (by decide) rfl ?_; intro g40
      first | (refine GL.append rfl rfl Wpk (by assumption) Wim (by first | rfl | (simp; done) | (simp; omega)) (by first | rfl | (simp; done) | (simp; omega)) (by first | omega | (simp; omega)) (by first | omega | (simp; omega)) rfl ?_; intro A41 c41) | (refine GL.append rfl rfl Wpk (Rd.of_pick Wpk) Imp.refl (by first | rfl | (simp; done) | (simp; omega)) (by first | rfl | (simp; done) | (simp; omega)) (by first | omega | (simp; omega)) (by first | omega | (simp; omega)) rfl ?_; intro A41 c41)
      refine GL.v Wag ?_
      refine GL.nil ?_
      refine GE.block ?_
      refine GE.seq ?_
      refine GC.region ?_
      refine GL.v Wmv ?_
      refine GL.v Wad ?_
      refine GL.v Wag ?_
      refine GL.nil ?_
      -- round of loop 1, path TF
      rw [at0_eq, hmc]
      refine GE.round (i + 1, _, _) (by dsimp only; omega) (by dsimp only; omega) Wkp Wsb
  · -- F
    have hie : i = ms.length := by omega
    subst hie
    rw [show meanUp (gr ms) xs ms.length = meanL (gr ms) xs by rw [meanL, gr_length]]
    refine GC.exit ?_
    refine GE.seq_exit ?_
    refine GE.loop_exit ?_
    refine GE.block_exit ?_
    refine GE.seq ?_
    refine GC.seq ?_
    refine GC.region ?_
    refine GL.v Wmv ?_
    refine GL.v Wag ?_
    refine GL.nil ?_
    refine GE.seq ?_
    refine GC.ret ?_
    -- returns, path F
    refine GE.ret_tmp (L' := row intE D e (meanL (gr ms) xs) :: L) (.inl rfl) rfl rfl Wsb ?_
    exact ⟨_, _, rfl, rfl⟩
theorem sMeaningOf_spec (w0 : World) (L : List Asn) (A : Option Addr) (c : Nat) (ms : List NdM) (hG : RdG w0 L A c ms) (B : Option Addr) (d : Nat) (xs : List Int) (hX : Rd w0 L intE B d xs) (hS : SizeG ms) (hx : xs.length ≤ 1100000) :
    Tr Try.prog 17 #[.agg #[.slice A ms.length c], .slice B xs.length d] w0 L (fun v L' => ∃ D e, v = .slice D (meanOfL (gr ms) xs).length e ∧ L' = row intE D e (meanOfL (gr ms) xs) :: L) := by
  have hSl := hS.1
  refine Tr.enter (args := [.agg #[.slice A ms.length c], .slice B xs.length d]) Try.func17 Try.ntmps17 rfl rfl ?_
  refine GC.seq ?_
  refine GC.region ?_
  refine GL.box_agg rfl rfl ?_; intro g2
  refine GL.v Wag ?_
  refine GL.nil ?_
  refine GE.seq ?_
  refine GC.seq ?_
  refine GC.seq ?_
  refine GC.region ?_
  refine GL.v Wlba ?_
  refine GL.callF rfl rfl (svalidGraph_spec _ _ _ _ _ (by first | assumption | exact RdG.imp (by assumption) Wim | exact RdG.of_pick Wpk Wpk) (by assumption)) ?_
  refine GL.v Wnt ?_
  refine GL.v Wmv ?_
  refine GL.gs (fun h1 => ?_) (fun h1 => ?_)
  · -- t
    refine GL.unwant rfl rfl rfl rfl ?_
    refine GL.unwant rfl rfl rfl rfl ?_
    refine GL.unwant rfl rfl rfl rfl ?_
    refine GL.unwant rfl rfl rfl rfl ?_
    refine GL.v Wpt ?_
    refine GL.nil ?_
    refine GE.seq ?_
    refine GC.cond_true rfl ?_
    refine GC.seq ?_
    refine GC.region ?_
    refine GL.v Wag ?_
    refine GL.nil ?_
    refine GE.seq ?_
    refine GC.ret ?_
    refine GE.seq_ret ?_
    -- returns, path t
    refine GE.state (fun _ hs => hs.empty intE none) ?_
    refine GE.ret_tmp (L' := row intE none 0 [] :: L) (.inl rfl) rfl rfl Wsb ?_
    rw [meanOfL_no (by rw [cellsV, h1]; rfl)]
    exact ⟨none, 0, rfl, rfl⟩
  · -- f
    refine GL.want rfl rfl ?_
    refine GL.v Wlba ?_
    refine GL.want rfl rfl ?_
    refine GL.v Wmv ?_
    refine GL.want rfl rfl ?_
    refine GL.callF rfl rfl (svalidCells_spec _ _ _ _ _ (by first | assumption | exact RdG.imp (by assumption) Wim | exact RdG.of_pick Wpk Wpk) _ _ _ Wrd Wom) ?_
    refine GL.want rfl rfl ?_
    refine GL.v Wnt ?_
    refine GL.v Wpf ?_
    refine GL.nil ?_
    refine GE.seq ?_
    refine GC.ifs (fun h2 => ?_) (fun h2 => ?_)
    · -- fT
      refine GC.seq ?_
      refine GC.region ?_
      refine GL.v Wag ?_
      refine GL.nil ?_
      refine GE.seq ?_
      refine GC.ret ?_
      refine GE.seq_ret ?_
      -- returns, path fT
      refine GE.state (fun _ hs => hs.empty intE none) ?_
      refine GE.ret_tmp (L' := row intE none 0 [] :: L) (.inl rfl) rfl rfl Wsb ?_
      rw [meanOfL_no (by rw [cellsV, h2]; simp)]
      exact ⟨none, 0, rfl, rfl⟩
    · -- fF
      have hC : cellsV (gr ms) xs = true := by rw [cellsV, h1, h2]; rfl
      refine GC.skip ?_
      refine GE.seq ?_
      refine GC.seq ?_
      refine GC.region ?_
      refine GL.v Wlba ?_
      refine GL.v Wmv ?_
      refine GL.call rfl rfl (smeaning_spec w0 _ A c ms (by first | assumption | exact RdG.imp (by assumption) Wim | exact RdG.of_pick Wpk Wpk) B d xs (hX.imp Wim) hC) ?_
      rintro _ _ ⟨D, e, rfl, rfl⟩
      refine GL.v Wag ?_
      refine GL.nil ?_
      refine GE.seq ?_
      refine GC.ret ?_
      -- returns, path fF
      refine GE.ret_tmp (L' := row intE D e (meanL (gr ms) xs) :: L) (.inl rfl) rfl rfl Wsb ?_
      rw [meanOfL_yes hC]
      exact ⟨_, _, rfl, rfl⟩
end SG
