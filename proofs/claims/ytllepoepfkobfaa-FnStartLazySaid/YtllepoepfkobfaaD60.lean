/- Contracts: the start of the lazy machine, of both. -/
import Derived.Test.YtllepoepfkobfaaD24
import Derived.Test.YtllepoepfkobfaaD29
import Derived.Test.YtllepoepfkobfaaPlain18
namespace SG
open Go Go.RowKit Go.Proofs
set_option linter.unusedVariables false
set_option linter.unusedSimpArgs false
set_option maxRecDepth 100000
theorem bdLaz0 : BdOk Try.prog 62 [] (.agg #[.slice none 0 0, .slice none 0 0, .slice none 0 0]) := ⟨fun w => by kernel_rfl⟩
theorem bdLaz1 (A : Option Addr) (n c : Nat) : BdOk Try.prog 62 [(0, .slice A n c)] (.agg #[.slice A n c, .slice none 0 0, .slice none 0 0]) := ⟨fun w => by kernel_rfl⟩
theorem bdLaz3 (A : Option Addr) (n c : Nat) (B : Option Addr) (m d : Nat) (C : Option Addr) (k e : Nat) : BdOk Try.prog 62 [(0, .slice A n c), (1, .slice B m d), (2, .slice C k e)] (.agg #[.slice A n c, .slice B m d, .slice C k e]) := ⟨fun w => by kernel_rfl⟩
theorem St.nil_rows {w0 w : World} {L : List Asn} (h : St w0 w L) : ∀ n, St w0 w (rowsA (List.replicate n ⟨none, 0, []⟩) :: L)
  | 0 => h.rows0
  | n + 1 => by
    have h1 : St w0 w (row intE none 0 [] :: rowsA (List.replicate n ⟨none, 0, []⟩) :: L) := (St.nil_rows h n).empty intE none
    have h2 := St.rows_snoc (m := ⟨none, 0, []⟩) h1
    rwa [← List.replicate_succ'] at h2
theorem li_nils (n : Nat) : li (List.replicate n ⟨none, 0, []⟩) = List.replicate n [] := by simp [li]
theorem St.none_lazy {w0 w : World} {L : List Asn} (h : St w0 w L) : St w0 w (row intE none 0 [] :: row slE none 0 [] :: rowsA [] :: row intE none 0 [] :: L) := ((h.empty intE none).none_lists).empty intE none
theorem iStartLazy_spec (w0 : World) (L : List Asn) (A : Option Addr) (c : Nat) (ms : List NdM) (hG : RdG w0 L A c ms) (B : Option Addr) (d : Nat) (xs : List Int) (hX : Rd w0 L intE B d xs) (hl : ms.length ≤ 1100000) (hx : xs.length ≤ 1100000) :
    Tr Try.prog 39 #[.agg #[.slice A ms.length c], .slice B xs.length d] w0 L (fun v L' => ∃ X x R r ls S s, li ls = lazR (gr ms) xs ∧ v = .agg #[.slice X (lazX (gr ms) xs).length x, .slice R ls.length r, .slice S (lazS (gr ms) xs).length s] ∧ L' = row intE X x (lazX (gr ms) xs) :: row slE R r ls :: rowsA ls :: row intE S s (lazS (gr ms) xs) :: L) := by
  have hN := hG.nodes
  refine Tr.enter (args := [.agg #[.slice A ms.length c], .slice B xs.length d]) Try.func39 Try.ntmps39 rfl rfl ?_
  refine GC.seq ?_
  refine GC.region ?_
  refine GL.box_agg rfl rfl ?_; intro g2
  refine GL.alloc rfl ?_; intro g4
  refine GL.nil ?_
  refine GE.seq ?_
  refine GC.seq ?_
  refine GC.seq ?_
  refine GC.region ?_
  refine GL.v Wlba ?_
  refine GL.v Wmv ?_
  refine GL.callF rfl rfl (iValidCells_spec _ _ _ _ _ (by first | assumption | exact RdG.imp (by assumption) Wim | exact RdG.of_pick Wpk Wpk) _ _ _ Wrd (by first | omega | exact SizeG.le (by assumption)) Wom) ?_
  refine GL.v Wnt ?_
  refine GL.nil ?_
  refine GE.seq ?_
  refine GC.ifs (fun h1 => ?_) (fun h1 => ?_)
  · -- T
    refine GC.seq ?_
    refine GC.region ?_
    refine GL.v (by exact EvP.r (Ev.build rfl (by first | exact bdPart ⟨_, _, _, _, _⟩ | exact bdReader _ _ _ | exact bdPart4 _ _ _ _ | exact bdForm _ _ _ | exact bdForm0 | exact bdGraph0 | exact bdGraph _ _ _ | exact bdNode1 _ | exact bdNode2 _ _ _ _ | exact bdHist0 | exact bdHist1 _ _ _ | exact bdHist2 _ _ _ _ | exact bdAct1 _ | exact bdAct2 _ _ | exact bdAct3 _ _ _ | exact bdAct13 _ _ | exact bdSes _ _ _ _ _ _ _ _ _ | exact bdLaz0 | exact bdLaz1 _ _ _ | exact bdLaz3 _ _ _ _ _ _ _ _ _))) ?_
    refine GL.store_varN rfl rfl rfl Wpk (by rfl) (by rfl) (by rfl) ?_
    refine GL.nil ?_
    refine GE.seq ?_
    refine GC.ret ?_
    refine GE.seq_ret ?_
    -- returns, path T
    refine GE.state (fun _ hs => hs.none_lazy) ?_
    refine GE.ret_cell (L' := row intE none 0 [] :: row slE none 0 [] :: rowsA [] :: row intE none 0 [] :: L) (.inl rfl) rfl rfl rfl (BlkRd.of_pick Wpk) (by rfl) Wsb ?_
    rw [lazX_no h1, lazS_no h1]
    exact ⟨none, 0, none, 0, [], none, 0, by rw [lazR_no h1]; rfl, rfl, rfl⟩
  · -- F
    have hxl := (cellsV_len h1).1
    have hl10 := (cellsV_len h1).2
    rw [gr_length] at hxl hl10
    refine GC.skip ?_
    refine GE.seq ?_
    -- mid 3: carried slots [5]
    refine GC.seq_mid (β := Nat × Option Addr × Nat × Nat) (fun b => True) (fun b => [(5, .pointer (some ⟨b.1, 0, none⟩))]) [(1, _), (2, _), (4, _)] (fun b => row intE b.2.1 xs.length xs :: row slE (some ⟨b.2.2.1, 0, none⟩) ms.length (List.replicate ms.length ⟨none, 0, []⟩) :: row intE (some ⟨b.2.2.2, 0, none⟩) ms.length (List.replicate ms.length 0) :: blk b.1 62 [.slice b.2.1 xs.length xs.length, .slice (some ⟨b.2.2.1, 0, none⟩) ms.length ms.length, .slice (some ⟨b.2.2.2, 0, none⟩) ms.length ms.length] :: blk g2 25 [.slice A ms.length c] :: blk g4 62 [.slice none 0 0, .slice none 0 0, .slice none 0 0] :: L) Wkp ?_ ?_
    ·
      refine GC.region_any #[false, true, false, true, true, false, true, true, false, true, true] mixed ?_
      refine GA.take 0 #[false, false, true, false, false, true, false, false, false, true, false] rfl (by exact Ev.move rfl) rfl rfl (by kernel_rfl) rfl (by kernel_rfl) (by kernel_rfl) (fun _ _ _ h => h) ?_
      refine GA.read 2 #[true, true, false, false, false, true, false, false, false, true, false] rfl (by exact Wlba) rfl rfl (by kernel_rfl) rfl (by kernel_rfl) (by kernel_rfl) (fun _ _ _ h => h) ?_
      refine GA.read 5 #[true, true, true, true, true, false, false, false, false, true, false] rfl (by exact Wlba) rfl rfl (by kernel_rfl) rfl (by kernel_rfl) (by kernel_rfl) (fun _ _ _ h => h) ?_
      refine GA.branch (rs := [1, 9]) (JOk.live (by exact Wlba) (JOk.live (by exact Wlba) JOk.nil)) (by kernel_rfl) (by simp) ?_
      refine GAs.cons rfl ?_ ?_
      · -- F.1 op 1
        refine GL.call rfl rfl (cloneInt_spec _ _ _ _ _ Wrd Wom) ?_
        rintro _ _ ⟨B13, rfl, rfl⟩
        refine GL.nil ?_
        refine GE.any ?_
        refine GA.branch (rs := [3, 9]) (JOk.live (by exact Wlba) (JOk.live (by exact Wlba) JOk.nil)) (by kernel_rfl) (by simp) ?_
        refine GAs.cons rfl ?_ ?_
        · -- F.1.3 op 3
          refine GL.callF rfl rfl (size_spec _ _ _ _ _) ?_
          refine GL.nil ?_
          refine GE.any ?_
          refine GA.branch (rs := [4, 6, 9]) (JOk.live (by exact Wlba) (JOk.dead (by kernel_rfl) JOk.nil)) (by kernel_rfl) (by simp) ?_
          refine GAs.cons rfl ?_ ?_
          · -- F.1.3.4 op 4
            refine GL.make rfl rfl Wik Wik (by omega) (by omega) rfl ?_; intro g16
            refine GL.nil ?_
            refine GE.any ?_
            refine GA.branch (rs := [6, 9]) (JOk.live (by exact Wlba) (JOk.dead (by kernel_rfl) JOk.nil)) (by kernel_rfl) (by simp) ?_
            refine GAs.cons rfl ?_ ?_
            · -- F.1.3.4.6 op 6
              refine GL.callF rfl rfl (size_spec _ _ _ _ _) ?_
              refine GL.nil ?_
              refine GE.any ?_
              refine GA.branch (rs := [7, 9]) (JOk.dead (by kernel_rfl) (JOk.dead (by kernel_rfl) JOk.nil)) (by kernel_rfl) (by simp) ?_
              refine GAs.cons rfl ?_ ?_
              · -- F.1.3.4.6.7 op 7
                refine GL.make rfl rfl Wik Wik (by omega) (by omega) rfl ?_; intro g19
                refine GL.nil ?_
                refine GE.any ?_
                refine GA.take 8 #[true, true, true, true, true, true, true, true, false, true, false] rfl (by exact Ev.build rfl (by first | exact bdPart ⟨_, _, _, _, _⟩ | exact bdReader _ _ _ | exact bdPart4 _ _ _ _ | exact bdForm _ _ _ | exact bdForm0 | exact bdGraph0 | exact bdGraph _ _ _ | exact bdNode1 _ | exact bdNode2 _ _ _ _ | exact bdHist0 | exact bdHist1 _ _ _ | exact bdHist2 _ _ _ _ | exact bdAct1 _ | exact bdAct2 _ _ | exact bdAct3 _ _ _ | exact bdAct13 _ _ | exact bdSes _ _ _ _ _ _ _ _ _ | exact bdLaz0 | exact bdLaz1 _ _ _ | exact bdLaz3 _ _ _ _ _ _ _ _ _)) rfl rfl (by kernel_rfl) rfl (by kernel_rfl) (by kernel_rfl) (fun _ _ _ h => h) ?_
                refine GA.branch (rs := [9]) (JOk.dead (by kernel_rfl) (JOk.dead (by kernel_rfl) JOk.nil)) (by kernel_rfl) (by simp) ?_
                refine GAs.cons rfl ?_ ?_
                · -- F.1.3.4.6.7 op 9
                  refine GL.alloc rfl ?_; intro g5
                  refine GL.nil ?_
                  refine GE.any ?_
                  refine GA.branch (rs := [10]) (JOk.dead (by kernel_rfl) (JOk.dead (by kernel_rfl) JOk.nil)) (by kernel_rfl) (by simp) ?_
                  refine GAs.cons rfl ?_ ?_
                  · -- F.1.3.4.6.7 op 10
                    refine GL.store_varN rfl rfl rfl Wpk (by rfl) (by rfl) (by rfl) ?_
                    refine GL.nil ?_
                    refine GE.any ?_
                    refine GA.done (JOk.dead (by kernel_rfl) (JOk.dead (by kernel_rfl) JOk.nil)) (by kernel_rfl) ?_
                    refine GE.mid ((g5, B13, g16, g19) : Nat × Option Addr × Nat × Nat) trivial Wkp Wsb
                  exact GAs.nil
                exact GAs.nil
              refine GAs.cons rfl ?_ ?_
              · -- F.1.3.4.6.9 op 9
                refine GL.alloc rfl ?_; intro g5
                refine GL.nil ?_
                refine GE.any ?_
                refine GA.branch (rs := [7]) (JOk.dead (by kernel_rfl) (JOk.dead (by kernel_rfl) JOk.nil)) (by kernel_rfl) (by simp) ?_
                refine GAs.cons rfl ?_ ?_
                · -- F.1.3.4.6.9 op 7
                  refine GL.make rfl rfl Wik Wik (by omega) (by omega) rfl ?_; intro g19
                  refine GL.nil ?_
                  refine GE.any ?_
                  refine GA.take 8 #[true, true, true, true, true, true, true, true, false, true, false] rfl (by exact Ev.build rfl (by first | exact bdPart ⟨_, _, _, _, _⟩ | exact bdReader _ _ _ | exact bdPart4 _ _ _ _ | exact bdForm _ _ _ | exact bdForm0 | exact bdGraph0 | exact bdGraph _ _ _ | exact bdNode1 _ | exact bdNode2 _ _ _ _ | exact bdHist0 | exact bdHist1 _ _ _ | exact bdHist2 _ _ _ _ | exact bdAct1 _ | exact bdAct2 _ _ | exact bdAct3 _ _ _ | exact bdAct13 _ _ | exact bdSes _ _ _ _ _ _ _ _ _ | exact bdLaz0 | exact bdLaz1 _ _ _ | exact bdLaz3 _ _ _ _ _ _ _ _ _)) rfl rfl (by kernel_rfl) rfl (by kernel_rfl) (by kernel_rfl) (fun _ _ _ h => h) ?_
                  refine GA.branch (rs := [10]) (JOk.dead (by kernel_rfl) (JOk.dead (by kernel_rfl) JOk.nil)) (by kernel_rfl) (by simp) ?_
                  refine GAs.cons rfl ?_ ?_
                  · -- F.1.3.4.6.9 op 10
                    refine GL.store_varN rfl rfl rfl Wpk (by rfl) (by rfl) (by rfl) ?_
                    refine GL.nil ?_
                    refine GE.any ?_
                    refine GA.done (JOk.dead (by kernel_rfl) (JOk.dead (by kernel_rfl) JOk.nil)) (by kernel_rfl) ?_
                    refine GE.mid ((g5, B13, g16, g19) : Nat × Option Addr × Nat × Nat) trivial Wkp Wsb
                  exact GAs.nil
                exact GAs.nil
              exact GAs.nil
            refine GAs.cons rfl ?_ ?_
            · -- F.1.3.4.9 op 9
              refine GL.alloc rfl ?_; intro g5
              refine GL.nil ?_
              refine GE.any ?_
              refine GA.branch (rs := [6]) (JOk.live (by exact Wlba) (JOk.dead (by kernel_rfl) JOk.nil)) (by kernel_rfl) (by simp) ?_
              refine GAs.cons rfl ?_ ?_
              · -- F.1.3.4.9 op 6
                refine GL.callF rfl rfl (size_spec _ _ _ _ _) ?_
                refine GL.nil ?_
                refine GE.any ?_
                refine GA.branch (rs := [7]) (JOk.dead (by kernel_rfl) (JOk.dead (by kernel_rfl) JOk.nil)) (by kernel_rfl) (by simp) ?_
                refine GAs.cons rfl ?_ ?_
                · -- F.1.3.4.9 op 7
                  refine GL.make rfl rfl Wik Wik (by omega) (by omega) rfl ?_; intro g19
                  refine GL.nil ?_
                  refine GE.any ?_
                  refine GA.take 8 #[true, true, true, true, true, true, true, true, false, true, false] rfl (by exact Ev.build rfl (by first | exact bdPart ⟨_, _, _, _, _⟩ | exact bdReader _ _ _ | exact bdPart4 _ _ _ _ | exact bdForm _ _ _ | exact bdForm0 | exact bdGraph0 | exact bdGraph _ _ _ | exact bdNode1 _ | exact bdNode2 _ _ _ _ | exact bdHist0 | exact bdHist1 _ _ _ | exact bdHist2 _ _ _ _ | exact bdAct1 _ | exact bdAct2 _ _ | exact bdAct3 _ _ _ | exact bdAct13 _ _ | exact bdSes _ _ _ _ _ _ _ _ _ | exact bdLaz0 | exact bdLaz1 _ _ _ | exact bdLaz3 _ _ _ _ _ _ _ _ _)) rfl rfl (by kernel_rfl) rfl (by kernel_rfl) (by kernel_rfl) (fun _ _ _ h => h) ?_
                  refine GA.branch (rs := [10]) (JOk.dead (by kernel_rfl) (JOk.dead (by kernel_rfl) JOk.nil)) (by kernel_rfl) (by simp) ?_
                  refine GAs.cons rfl ?_ ?_
                  · -- F.1.3.4.9 op 10
                    refine GL.store_varN rfl rfl rfl Wpk (by rfl) (by rfl) (by rfl) ?_
                    refine GL.nil ?_
                    refine GE.any ?_
                    refine GA.done (JOk.dead (by kernel_rfl) (JOk.dead (by kernel_rfl) JOk.nil)) (by kernel_rfl) ?_
                    refine GE.mid ((g5, B13, g16, g19) : Nat × Option Addr × Nat × Nat) trivial Wkp Wsb
                  exact GAs.nil
                exact GAs.nil
              exact GAs.nil
            exact GAs.nil
          refine GAs.cons rfl ?_ ?_
          · -- F.1.3.6 op 6
            refine GL.callF rfl rfl (size_spec _ _ _ _ _) ?_
            refine GL.nil ?_
            refine GE.any ?_
            refine GA.branch (rs := [4, 7, 9]) (JOk.dead (by kernel_rfl) (JOk.dead (by kernel_rfl) JOk.nil)) (by kernel_rfl) (by simp) ?_
            refine GAs.cons rfl ?_ ?_
            · -- F.1.3.6.4 op 4
              refine GL.make rfl rfl Wik Wik (by omega) (by omega) rfl ?_; intro g16
              refine GL.nil ?_
              refine GE.any ?_
              refine GA.branch (rs := [7, 9]) (JOk.dead (by kernel_rfl) (JOk.dead (by kernel_rfl) JOk.nil)) (by kernel_rfl) (by simp) ?_
              refine GAs.cons rfl ?_ ?_
              · -- F.1.3.6.4.7 op 7
                refine GL.make rfl rfl Wik Wik (by omega) (by omega) rfl ?_; intro g19
                refine GL.nil ?_
                refine GE.any ?_
                refine GA.take 8 #[true, true, true, true, true, true, true, true, false, true, false] rfl (by exact Ev.build rfl (by first | exact bdPart ⟨_, _, _, _, _⟩ | exact bdReader _ _ _ | exact bdPart4 _ _ _ _ | exact bdForm _ _ _ | exact bdForm0 | exact bdGraph0 | exact bdGraph _ _ _ | exact bdNode1 _ | exact bdNode2 _ _ _ _ | exact bdHist0 | exact bdHist1 _ _ _ | exact bdHist2 _ _ _ _ | exact bdAct1 _ | exact bdAct2 _ _ | exact bdAct3 _ _ _ | exact bdAct13 _ _ | exact bdSes _ _ _ _ _ _ _ _ _ | exact bdLaz0 | exact bdLaz1 _ _ _ | exact bdLaz3 _ _ _ _ _ _ _ _ _)) rfl rfl (by kernel_rfl) rfl (by kernel_rfl) (by kernel_rfl) (fun _ _ _ h => h) ?_
                refine GA.branch (rs := [9]) (JOk.dead (by kernel_rfl) (JOk.dead (by kernel_rfl) JOk.nil)) (by kernel_rfl) (by simp) ?_
                refine GAs.cons rfl ?_ ?_
                · -- F.1.3.6.4.7 op 9
                  refine GL.alloc rfl ?_; intro g5
                  refine GL.nil ?_
                  refine GE.any ?_
                  refine GA.branch (rs := [10]) (JOk.dead (by kernel_rfl) (JOk.dead (by kernel_rfl) JOk.nil)) (by kernel_rfl) (by simp) ?_
                  refine GAs.cons rfl ?_ ?_
                  · -- F.1.3.6.4.7 op 10
                    refine GL.store_varN rfl rfl rfl Wpk (by rfl) (by rfl) (by rfl) ?_
                    refine GL.nil ?_
                    refine GE.any ?_
                    refine GA.done (JOk.dead (by kernel_rfl) (JOk.dead (by kernel_rfl) JOk.nil)) (by kernel_rfl) ?_
                    refine GE.mid ((g5, B13, g16, g19) : Nat × Option Addr × Nat × Nat) trivial Wkp Wsb
                  exact GAs.nil
                exact GAs.nil
              refine GAs.cons rfl ?_ ?_
              · -- F.1.3.6.4.9 op 9
                refine GL.alloc rfl ?_; intro g5
                refine GL.nil ?_
                refine GE.any ?_
                refine GA.branch (rs := [7]) (JOk.dead (by kernel_rfl) (JOk.dead (by kernel_rfl) JOk.nil)) (by kernel_rfl) (by simp) ?_
                refine GAs.cons rfl ?_ ?_
                · -- F.1.3.6.4.9 op 7
                  refine GL.make rfl rfl Wik Wik (by omega) (by omega) rfl ?_; intro g19
                  refine GL.nil ?_
                  refine GE.any ?_
                  refine GA.take 8 #[true, true, true, true, true, true, true, true, false, true, false] rfl (by exact Ev.build rfl (by first | exact bdPart ⟨_, _, _, _, _⟩ | exact bdReader _ _ _ | exact bdPart4 _ _ _ _ | exact bdForm _ _ _ | exact bdForm0 | exact bdGraph0 | exact bdGraph _ _ _ | exact bdNode1 _ | exact bdNode2 _ _ _ _ | exact bdHist0 | exact bdHist1 _ _ _ | exact bdHist2 _ _ _ _ | exact bdAct1 _ | exact bdAct2 _ _ | exact bdAct3 _ _ _ | exact bdAct13 _ _ | exact bdSes _ _ _ _ _ _ _ _ _ | exact bdLaz0 | exact bdLaz1 _ _ _ | exact bdLaz3 _ _ _ _ _ _ _ _ _)) rfl rfl (by kernel_rfl) rfl (by kernel_rfl) (by kernel_rfl) (fun _ _ _ h => h) ?_
                  refine GA.branch (rs := [10]) (JOk.dead (by kernel_rfl) (JOk.dead (by kernel_rfl) JOk.nil)) (by kernel_rfl) (by simp) ?_
                  refine GAs.cons rfl ?_ ?_
                  · -- F.1.3.6.4.9 op 10
                    refine GL.store_varN rfl rfl rfl Wpk (by rfl) (by rfl) (by rfl) ?_
                    refine GL.nil ?_
                    refine GE.any ?_
                    refine GA.done (JOk.dead (by kernel_rfl) (JOk.dead (by kernel_rfl) JOk.nil)) (by kernel_rfl) ?_
                    refine GE.mid ((g5, B13, g16, g19) : Nat × Option Addr × Nat × Nat) trivial Wkp Wsb
                  exact GAs.nil
                exact GAs.nil
              exact GAs.nil
            refine GAs.cons rfl ?_ ?_
            · -- F.1.3.6.7 op 7
              refine GL.make rfl rfl Wik Wik (by omega) (by omega) rfl ?_; intro g19
              refine GL.nil ?_
              refine GE.any ?_
              refine GA.branch (rs := [4, 9]) (JOk.dead (by kernel_rfl) (JOk.dead (by kernel_rfl) JOk.nil)) (by kernel_rfl) (by simp) ?_
              refine GAs.cons rfl ?_ ?_
              · -- F.1.3.6.7.4 op 4
                refine GL.make rfl rfl Wik Wik (by omega) (by omega) rfl ?_; intro g16
                refine GL.nil ?_
                refine GE.any ?_
                refine GA.take 8 #[true, true, true, true, true, true, true, true, false, true, false] rfl (by exact Ev.build rfl (by first | exact bdPart ⟨_, _, _, _, _⟩ | exact bdReader _ _ _ | exact bdPart4 _ _ _ _ | exact bdForm _ _ _ | exact bdForm0 | exact bdGraph0 | exact bdGraph _ _ _ | exact bdNode1 _ | exact bdNode2 _ _ _ _ | exact bdHist0 | exact bdHist1 _ _ _ | exact bdHist2 _ _ _ _ | exact bdAct1 _ | exact bdAct2 _ _ | exact bdAct3 _ _ _ | exact bdAct13 _ _ | exact bdSes _ _ _ _ _ _ _ _ _ | exact bdLaz0 | exact bdLaz1 _ _ _ | exact bdLaz3 _ _ _ _ _ _ _ _ _)) rfl rfl (by kernel_rfl) rfl (by kernel_rfl) (by kernel_rfl) (fun _ _ _ h => h) ?_
                refine GA.branch (rs := [9]) (JOk.dead (by kernel_rfl) (JOk.dead (by kernel_rfl) JOk.nil)) (by kernel_rfl) (by simp) ?_
                refine GAs.cons rfl ?_ ?_
                · -- F.1.3.6.7.4 op 9
                  refine GL.alloc rfl ?_; intro g5
                  refine GL.nil ?_
                  refine GE.any ?_
                  refine GA.branch (rs := [10]) (JOk.dead (by kernel_rfl) (JOk.dead (by kernel_rfl) JOk.nil)) (by kernel_rfl) (by simp) ?_
                  refine GAs.cons rfl ?_ ?_
                  · -- F.1.3.6.7.4 op 10
                    refine GL.store_varN rfl rfl rfl Wpk (by rfl) (by rfl) (by rfl) ?_
                    refine GL.nil ?_
                    refine GE.any ?_
                    refine GA.done (JOk.dead (by kernel_rfl) (JOk.dead (by kernel_rfl) JOk.nil)) (by kernel_rfl) ?_
                    refine GE.mid ((g5, B13, g16, g19) : Nat × Option Addr × Nat × Nat) trivial Wkp Wsb
                  exact GAs.nil
                exact GAs.nil
              refine GAs.cons rfl ?_ ?_
              · -- F.1.3.6.7.9 op 9
                refine GL.alloc rfl ?_; intro g5
                refine GL.nil ?_
                refine GE.any ?_
                refine GA.branch (rs := [4]) (JOk.dead (by kernel_rfl) (JOk.dead (by kernel_rfl) JOk.nil)) (by kernel_rfl) (by simp) ?_
                refine GAs.cons rfl ?_ ?_
                · -- F.1.3.6.7.9 op 4
                  refine GL.make rfl rfl Wik Wik (by omega) (by omega) rfl ?_; intro g16
                  refine GL.nil ?_
                  refine GE.any ?_
                  refine GA.take 8 #[true, true, true, true, true, true, true, true, false, true, false] rfl (by exact Ev.build rfl (by first | exact bdPart ⟨_, _, _, _, _⟩ | exact bdReader _ _ _ | exact bdPart4 _ _ _ _ | exact bdForm _ _ _ | exact bdForm0 | exact bdGraph0 | exact bdGraph _ _ _ | exact bdNode1 _ | exact bdNode2 _ _ _ _ | exact bdHist0 | exact bdHist1 _ _ _ | exact bdHist2 _ _ _ _ | exact bdAct1 _ | exact bdAct2 _ _ | exact bdAct3 _ _ _ | exact bdAct13 _ _ | exact bdSes _ _ _ _ _ _ _ _ _ | exact bdLaz0 | exact bdLaz1 _ _ _ | exact bdLaz3 _ _ _ _ _ _ _ _ _)) rfl rfl (by kernel_rfl) rfl (by kernel_rfl) (by kernel_rfl) (fun _ _ _ h => h) ?_
                  refine GA.branch (rs := [10]) (JOk.dead (by kernel_rfl) (JOk.dead (by kernel_rfl) JOk.nil)) (by kernel_rfl) (by simp) ?_
                  refine GAs.cons rfl ?_ ?_
                  · -- F.1.3.6.7.9 op 10
                    refine GL.store_varN rfl rfl rfl Wpk (by rfl) (by rfl) (by rfl) ?_
                    refine GL.nil ?_
                    refine GE.any ?_
                    refine GA.done (JOk.dead (by kernel_rfl) (JOk.dead (by kernel_rfl) JOk.nil)) (by kernel_rfl) ?_
                    refine GE.mid ((g5, B13, g16, g19) : Nat × Option Addr × Nat × Nat) trivial Wkp Wsb
                  exact GAs.nil
                exact GAs.nil
              exact GAs.nil
            refine GAs.cons rfl ?_ ?_
            · -- F.1.3.6.9 op 9
              refine GL.alloc rfl ?_; intro g5
              refine GL.nil ?_
              refine GE.any ?_
              refine GA.branch (rs := [4, 7]) (JOk.dead (by kernel_rfl) (JOk.dead (by kernel_rfl) JOk.nil)) (by kernel_rfl) (by simp) ?_
              refine GAs.cons rfl ?_ ?_
              · -- F.1.3.6.9.4 op 4
                refine GL.make rfl rfl Wik Wik (by omega) (by omega) rfl ?_; intro g16
                refine GL.nil ?_
                refine GE.any ?_
                refine GA.branch (rs := [7]) (JOk.dead (by kernel_rfl) (JOk.dead (by kernel_rfl) JOk.nil)) (by kernel_rfl) (by simp) ?_
                refine GAs.cons rfl ?_ ?_
                · -- F.1.3.6.9.4 op 7
                  refine GL.make rfl rfl Wik Wik (by omega) (by omega) rfl ?_; intro g19
                  refine GL.nil ?_
                  refine GE.any ?_
                  refine GA.take 8 #[true, true, true, true, true, true, true, true, false, true, false] rfl (by exact Ev.build rfl (by first | exact bdPart ⟨_, _, _, _, _⟩ | exact bdReader _ _ _ | exact bdPart4 _ _ _ _ | exact bdForm _ _ _ | exact bdForm0 | exact bdGraph0 | exact bdGraph _ _ _ | exact bdNode1 _ | exact bdNode2 _ _ _ _ | exact bdHist0 | exact bdHist1 _ _ _ | exact bdHist2 _ _ _ _ | exact bdAct1 _ | exact bdAct2 _ _ | exact bdAct3 _ _ _ | exact bdAct13 _ _ | exact bdSes _ _ _ _ _ _ _ _ _ | exact bdLaz0 | exact bdLaz1 _ _ _ | exact bdLaz3 _ _ _ _ _ _ _ _ _)) rfl rfl (by kernel_rfl) rfl (by kernel_rfl) (by kernel_rfl) (fun _ _ _ h => h) ?_
                  refine GA.branch (rs := [10]) (JOk.dead (by kernel_rfl) (JOk.dead (by kernel_rfl) JOk.nil)) (by kernel_rfl) (by simp) ?_
                  refine GAs.cons rfl ?_ ?_
                  · -- F.1.3.6.9.4 op 10
                    refine GL.store_varN rfl rfl rfl Wpk (by rfl) (by rfl) (by rfl) ?_
                    refine GL.nil ?_
                    refine GE.any ?_
                    refine GA.done (JOk.dead (by kernel_rfl) (JOk.dead (by kernel_rfl) JOk.nil)) (by kernel_rfl) ?_
                    refine GE.mid ((g5, B13, g16, g19) : Nat × Option Addr × Nat × Nat) trivial Wkp Wsb
                  exact GAs.nil
                exact GAs.nil
              refine GAs.cons rfl ?_ ?_
              · -- F.1.3.6.9.7 op 7
                refine GL.make rfl rfl Wik Wik (by omega) (by omega) rfl ?_; intro g19
                refine GL.nil ?_
                refine GE.any ?_
                refine GA.branch (rs := [4]) (JOk.dead (by kernel_rfl) (JOk.dead (by kernel_rfl) JOk.nil)) (by kernel_rfl) (by simp) ?_
                refine GAs.cons rfl ?_ ?_
                · -- F.1.3.6.9.7 op 4
                  refine GL.make rfl rfl Wik Wik (by omega) (by omega) rfl ?_; intro g16
                  refine GL.nil ?_
                  refine GE.any ?_
                  refine GA.take 8 #[true, true, true, true, true, true, true, true, false, true, false] rfl (by exact Ev.build rfl (by first | exact bdPart ⟨_, _, _, _, _⟩ | exact bdReader _ _ _ | exact bdPart4 _ _ _ _ | exact bdForm _ _ _ | exact bdForm0 | exact bdGraph0 | exact bdGraph _ _ _ | exact bdNode1 _ | exact bdNode2 _ _ _ _ | exact bdHist0 | exact bdHist1 _ _ _ | exact bdHist2 _ _ _ _ | exact bdAct1 _ | exact bdAct2 _ _ | exact bdAct3 _ _ _ | exact bdAct13 _ _ | exact bdSes _ _ _ _ _ _ _ _ _ | exact bdLaz0 | exact bdLaz1 _ _ _ | exact bdLaz3 _ _ _ _ _ _ _ _ _)) rfl rfl (by kernel_rfl) rfl (by kernel_rfl) (by kernel_rfl) (fun _ _ _ h => h) ?_
                  refine GA.branch (rs := [10]) (JOk.dead (by kernel_rfl) (JOk.dead (by kernel_rfl) JOk.nil)) (by kernel_rfl) (by simp) ?_
                  refine GAs.cons rfl ?_ ?_
                  · -- F.1.3.6.9.7 op 10
                    refine GL.store_varN rfl rfl rfl Wpk (by rfl) (by rfl) (by rfl) ?_
                    refine GL.nil ?_
                    refine GE.any ?_
                    refine GA.done (JOk.dead (by kernel_rfl) (JOk.dead (by kernel_rfl) JOk.nil)) (by kernel_rfl) ?_
                    refine GE.mid ((g5, B13, g16, g19) : Nat × Option Addr × Nat × Nat) trivial Wkp Wsb
                  exact GAs.nil
                exact GAs.nil
              exact GAs.nil
            exact GAs.nil
          refine GAs.cons rfl ?_ ?_
          · -- F.1.3.9 op 9
            refine GL.alloc rfl ?_; intro g5
            refine GL.nil ?_
            refine GE.any ?_
            refine GA.branch (rs := [4, 6]) (JOk.live (by exact Wlba) (JOk.dead (by kernel_rfl) JOk.nil)) (by kernel_rfl) (by simp) ?_
            refine GAs.cons rfl ?_ ?_
            · -- F.1.3.9.4 op 4
              refine GL.make rfl rfl Wik Wik (by omega) (by omega) rfl ?_; intro g16
              refine GL.nil ?_
              refine GE.any ?_
              refine GA.branch (rs := [6]) (JOk.live (by exact Wlba) (JOk.dead (by kernel_rfl) JOk.nil)) (by kernel_rfl) (by simp) ?_
              refine GAs.cons rfl ?_ ?_
              · -- F.1.3.9.4 op 6
                refine GL.callF rfl rfl (size_spec _ _ _ _ _) ?_
                refine GL.nil ?_
                refine GE.any ?_
                refine GA.branch (rs := [7]) (JOk.dead (by kernel_rfl) (JOk.dead (by kernel_rfl) JOk.nil)) (by kernel_rfl) (by simp) ?_
                refine GAs.cons rfl ?_ ?_
                · -- F.1.3.9.4 op 7
                  refine GL.make rfl rfl Wik Wik (by omega) (by omega) rfl ?_; intro g19
                  refine GL.nil ?_
                  refine GE.any ?_
                  refine GA.take 8 #[true, true, true, true, true, true, true, true, false, true, false] rfl (by exact Ev.build rfl (by first | exact bdPart ⟨_, _, _, _, _⟩ | exact bdReader _ _ _ | exact bdPart4 _ _ _ _ | exact bdForm _ _ _ | exact bdForm0 | exact bdGraph0 | exact bdGraph _ _ _ | exact bdNode1 _ | exact bdNode2 _ _ _ _ | exact bdHist0 | exact bdHist1 _ _ _ | exact bdHist2 _ _ _ _ | exact bdAct1 _ | exact bdAct2 _ _ | exact bdAct3 _ _ _ | exact bdAct13 _ _ | exact bdSes _ _ _ _ _ _ _ _ _ | exact bdLaz0 | exact bdLaz1 _ _ _ | exact bdLaz3 _ _ _ _ _ _ _ _ _)) rfl rfl (by kernel_rfl) rfl (by kernel_rfl) (by kernel_rfl) (fun _ _ _ h => h) ?_
                  refine GA.branch (rs := [10]) (JOk.dead (by kernel_rfl) (JOk.dead (by kernel_rfl) JOk.nil)) (by kernel_rfl) (by simp) ?_
                  refine GAs.cons rfl ?_ ?_
                  · -- F.1.3.9.4 op 10
                    refine GL.store_varN rfl rfl rfl Wpk (by rfl) (by rfl) (by rfl) ?_
                    refine GL.nil ?_
                    refine GE.any ?_
                    refine GA.done (JOk.dead (by kernel_rfl) (JOk.dead (by kernel_rfl) JOk.nil)) (by kernel_rfl) ?_
                    refine GE.mid ((g5, B13, g16, g19) : Nat × Option Addr × Nat × Nat) trivial Wkp Wsb
                  exact GAs.nil
                exact GAs.nil
              exact GAs.nil
            refine GAs.cons rfl ?_ ?_
            · -- F.1.3.9.6 op 6
              refine GL.callF rfl rfl (size_spec _ _ _ _ _) ?_
              refine GL.nil ?_
              refine GE.any ?_
              refine GA.branch (rs := [4, 7]) (JOk.dead (by kernel_rfl) (JOk.dead (by kernel_rfl) JOk.nil)) (by kernel_rfl) (by simp) ?_
              refine GAs.cons rfl ?_ ?_
              · -- F.1.3.9.6.4 op 4
                refine GL.make rfl rfl Wik Wik (by omega) (by omega) rfl ?_; intro g16
                refine GL.nil ?_
                refine GE.any ?_
                refine GA.branch (rs := [7]) (JOk.dead (by kernel_rfl) (JOk.dead (by kernel_rfl) JOk.nil)) (by kernel_rfl) (by simp) ?_
                refine GAs.cons rfl ?_ ?_
                · -- F.1.3.9.6.4 op 7
                  refine GL.make rfl rfl Wik Wik (by omega) (by omega) rfl ?_; intro g19
                  refine GL.nil ?_
                  refine GE.any ?_
                  refine GA.take 8 #[true, true, true, true, true, true, true, true, false, true, false] rfl (by exact Ev.build rfl (by first | exact bdPart ⟨_, _, _, _, _⟩ | exact bdReader _ _ _ | exact bdPart4 _ _ _ _ | exact bdForm _ _ _ | exact bdForm0 | exact bdGraph0 | exact bdGraph _ _ _ | exact bdNode1 _ | exact bdNode2 _ _ _ _ | exact bdHist0 | exact bdHist1 _ _ _ | exact bdHist2 _ _ _ _ | exact bdAct1 _ | exact bdAct2 _ _ | exact bdAct3 _ _ _ | exact bdAct13 _ _ | exact bdSes _ _ _ _ _ _ _ _ _ | exact bdLaz0 | exact bdLaz1 _ _ _ | exact bdLaz3 _ _ _ _ _ _ _ _ _)) rfl rfl (by kernel_rfl) rfl (by kernel_rfl) (by kernel_rfl) (fun _ _ _ h => h) ?_
                  refine GA.branch (rs := [10]) (JOk.dead (by kernel_rfl) (JOk.dead (by kernel_rfl) JOk.nil)) (by kernel_rfl) (by simp) ?_
                  refine GAs.cons rfl ?_ ?_
                  · -- F.1.3.9.6.4 op 10
                    refine GL.store_varN rfl rfl rfl Wpk (by rfl) (by rfl) (by rfl) ?_
                    refine GL.nil ?_
                    refine GE.any ?_
                    refine GA.done (JOk.dead (by kernel_rfl) (JOk.dead (by kernel_rfl) JOk.nil)) (by kernel_rfl) ?_
                    refine GE.mid ((g5, B13, g16, g19) : Nat × Option Addr × Nat × Nat) trivial Wkp Wsb
                  exact GAs.nil
                exact GAs.nil
              refine GAs.cons rfl ?_ ?_
              · -- F.1.3.9.6.7 op 7
                refine GL.make rfl rfl Wik Wik (by omega) (by omega) rfl ?_; intro g19
                refine GL.nil ?_
                refine GE.any ?_
                refine GA.branch (rs := [4]) (JOk.dead (by kernel_rfl) (JOk.dead (by kernel_rfl) JOk.nil)) (by kernel_rfl) (by simp) ?_
                refine GAs.cons rfl ?_ ?_
                · -- F.1.3.9.6.7 op 4
                  refine GL.make rfl rfl Wik Wik (by omega) (by omega) rfl ?_; intro g16
                  refine GL.nil ?_
                  refine GE.any ?_
                  refine GA.take 8 #[true, true, true, true, true, true, true, true, false, true, false] rfl (by exact Ev.build rfl (by first | exact bdPart ⟨_, _, _, _, _⟩ | exact bdReader _ _ _ | exact bdPart4 _ _ _ _ | exact bdForm _ _ _ | exact bdForm0 | exact bdGraph0 | exact bdGraph _ _ _ | exact bdNode1 _ | exact bdNode2 _ _ _ _ | exact bdHist0 | exact bdHist1 _ _ _ | exact bdHist2 _ _ _ _ | exact bdAct1 _ | exact bdAct2 _ _ | exact bdAct3 _ _ _ | exact bdAct13 _ _ | exact bdSes _ _ _ _ _ _ _ _ _ | exact bdLaz0 | exact bdLaz1 _ _ _ | exact bdLaz3 _ _ _ _ _ _ _ _ _)) rfl rfl (by kernel_rfl) rfl (by kernel_rfl) (by kernel_rfl) (fun _ _ _ h => h) ?_
                  refine GA.branch (rs := [10]) (JOk.dead (by kernel_rfl) (JOk.dead (by kernel_rfl) JOk.nil)) (by kernel_rfl) (by simp) ?_
                  refine GAs.cons rfl ?_ ?_
                  · -- F.1.3.9.6.7 op 10
                    refine GL.store_varN rfl rfl rfl Wpk (by rfl) (by rfl) (by rfl) ?_
                    refine GL.nil ?_
                    refine GE.any ?_
                    refine GA.done (JOk.dead (by kernel_rfl) (JOk.dead (by kernel_rfl) JOk.nil)) (by kernel_rfl) ?_
                    refine GE.mid ((g5, B13, g16, g19) : Nat × Option Addr × Nat × Nat) trivial Wkp Wsb
                  exact GAs.nil
                exact GAs.nil
              exact GAs.nil
            exact GAs.nil
          exact GAs.nil
        refine GAs.cons rfl ?_ ?_
        · -- F.1.9 op 9
          refine GL.alloc rfl ?_; intro g5
          refine GL.nil ?_
          refine GE.any ?_
          refine GA.branch (rs := [3]) (JOk.live (by exact Wlba) (JOk.live (by exact Wlba) JOk.nil)) (by kernel_rfl) (by simp) ?_
          refine GAs.cons rfl ?_ ?_
          · -- F.1.9 op 3
            refine GL.callF rfl rfl (size_spec _ _ _ _ _) ?_
            refine GL.nil ?_
            refine GE.any ?_
            refine GA.branch (rs := [4, 6]) (JOk.live (by exact Wlba) (JOk.dead (by kernel_rfl) JOk.nil)) (by kernel_rfl) (by simp) ?_
            refine GAs.cons rfl ?_ ?_
            · -- F.1.9.4 op 4
              refine GL.make rfl rfl Wik Wik (by omega) (by omega) rfl ?_; intro g16
              refine GL.nil ?_
              refine GE.any ?_
              refine GA.branch (rs := [6]) (JOk.live (by exact Wlba) (JOk.dead (by kernel_rfl) JOk.nil)) (by kernel_rfl) (by simp) ?_
              refine GAs.cons rfl ?_ ?_
              · -- F.1.9.4 op 6
                refine GL.callF rfl rfl (size_spec _ _ _ _ _) ?_
                refine GL.nil ?_
                refine GE.any ?_
                refine GA.branch (rs := [7]) (JOk.dead (by kernel_rfl) (JOk.dead (by kernel_rfl) JOk.nil)) (by kernel_rfl) (by simp) ?_
                refine GAs.cons rfl ?_ ?_
                · -- F.1.9.4 op 7
                  refine GL.make rfl rfl Wik Wik (by omega) (by omega) rfl ?_; intro g19
                  refine GL.nil ?_
                  refine GE.any ?_
                  refine GA.take 8 #[true, true, true, true, true, true, true, true, false, true, false] rfl (by exact Ev.build rfl (by first | exact bdPart ⟨_, _, _, _, _⟩ | exact bdReader _ _ _ | exact bdPart4 _ _ _ _ | exact bdForm _ _ _ | exact bdForm0 | exact bdGraph0 | exact bdGraph _ _ _ | exact bdNode1 _ | exact bdNode2 _ _ _ _ | exact bdHist0 | exact bdHist1 _ _ _ | exact bdHist2 _ _ _ _ | exact bdAct1 _ | exact bdAct2 _ _ | exact bdAct3 _ _ _ | exact bdAct13 _ _ | exact bdSes _ _ _ _ _ _ _ _ _ | exact bdLaz0 | exact bdLaz1 _ _ _ | exact bdLaz3 _ _ _ _ _ _ _ _ _)) rfl rfl (by kernel_rfl) rfl (by kernel_rfl) (by kernel_rfl) (fun _ _ _ h => h) ?_
                  refine GA.branch (rs := [10]) (JOk.dead (by kernel_rfl) (JOk.dead (by kernel_rfl) JOk.nil)) (by kernel_rfl) (by simp) ?_
                  refine GAs.cons rfl ?_ ?_
                  · -- F.1.9.4 op 10
                    refine GL.store_varN rfl rfl rfl Wpk (by rfl) (by rfl) (by rfl) ?_
                    refine GL.nil ?_
                    refine GE.any ?_
                    refine GA.done (JOk.dead (by kernel_rfl) (JOk.dead (by kernel_rfl) JOk.nil)) (by kernel_rfl) ?_
                    refine GE.mid ((g5, B13, g16, g19) : Nat × Option Addr × Nat × Nat) trivial Wkp Wsb
                  exact GAs.nil
                exact GAs.nil
              exact GAs.nil
            refine GAs.cons rfl ?_ ?_
            · -- F.1.9.6 op 6
              refine GL.callF rfl rfl (size_spec _ _ _ _ _) ?_
              refine GL.nil ?_
              refine GE.any ?_
              refine GA.branch (rs := [4, 7]) (JOk.dead (by kernel_rfl) (JOk.dead (by kernel_rfl) JOk.nil)) (by kernel_rfl) (by simp) ?_
              refine GAs.cons rfl ?_ ?_
              · -- F.1.9.6.4 op 4
                refine GL.make rfl rfl Wik Wik (by omega) (by omega) rfl ?_; intro g16
                refine GL.nil ?_
                refine GE.any ?_
                refine GA.branch (rs := [7]) (JOk.dead (by kernel_rfl) (JOk.dead (by kernel_rfl) JOk.nil)) (by kernel_rfl) (by simp) ?_
                refine GAs.cons rfl ?_ ?_
                · -- F.1.9.6.4 op 7
                  refine GL.make rfl rfl Wik Wik (by omega) (by omega) rfl ?_; intro g19
                  refine GL.nil ?_
                  refine GE.any ?_
                  refine GA.take 8 #[true, true, true, true, true, true, true, true, false, true, false] rfl (by exact Ev.build rfl (by first | exact bdPart ⟨_, _, _, _, _⟩ | exact bdReader _ _ _ | exact bdPart4 _ _ _ _ | exact bdForm _ _ _ | exact bdForm0 | exact bdGraph0 | exact bdGraph _ _ _ | exact bdNode1 _ | exact bdNode2 _ _ _ _ | exact bdHist0 | exact bdHist1 _ _ _ | exact bdHist2 _ _ _ _ | exact bdAct1 _ | exact bdAct2 _ _ | exact bdAct3 _ _ _ | exact bdAct13 _ _ | exact bdSes _ _ _ _ _ _ _ _ _ | exact bdLaz0 | exact bdLaz1 _ _ _ | exact bdLaz3 _ _ _ _ _ _ _ _ _)) rfl rfl (by kernel_rfl) rfl (by kernel_rfl) (by kernel_rfl) (fun _ _ _ h => h) ?_
                  refine GA.branch (rs := [10]) (JOk.dead (by kernel_rfl) (JOk.dead (by kernel_rfl) JOk.nil)) (by kernel_rfl) (by simp) ?_
                  refine GAs.cons rfl ?_ ?_
                  · -- F.1.9.6.4 op 10
                    refine GL.store_varN rfl rfl rfl Wpk (by rfl) (by rfl) (by rfl) ?_
                    refine GL.nil ?_
                    refine GE.any ?_
                    refine GA.done (JOk.dead (by kernel_rfl) (JOk.dead (by kernel_rfl) JOk.nil)) (by kernel_rfl) ?_
                    refine GE.mid ((g5, B13, g16, g19) : Nat × Option Addr × Nat × Nat) trivial Wkp Wsb
                  exact GAs.nil
                exact GAs.nil
              refine GAs.cons rfl ?_ ?_
              · -- F.1.9.6.7 op 7
                refine GL.make rfl rfl Wik Wik (by omega) (by omega) rfl ?_; intro g19
                refine GL.nil ?_
                refine GE.any ?_
                refine GA.branch (rs := [4]) (JOk.dead (by kernel_rfl) (JOk.dead (by kernel_rfl) JOk.nil)) (by kernel_rfl) (by simp) ?_
                refine GAs.cons rfl ?_ ?_
                · -- F.1.9.6.7 op 4
                  refine GL.make rfl rfl Wik Wik (by omega) (by omega) rfl ?_; intro g16
                  refine GL.nil ?_
                  refine GE.any ?_
                  refine GA.take 8 #[true, true, true, true, true, true, true, true, false, true, false] rfl (by exact Ev.build rfl (by first | exact bdPart ⟨_, _, _, _, _⟩ | exact bdReader _ _ _ | exact bdPart4 _ _ _ _ | exact bdForm _ _ _ | exact bdForm0 | exact bdGraph0 | exact bdGraph _ _ _ | exact bdNode1 _ | exact bdNode2 _ _ _ _ | exact bdHist0 | exact bdHist1 _ _ _ | exact bdHist2 _ _ _ _ | exact bdAct1 _ | exact bdAct2 _ _ | exact bdAct3 _ _ _ | exact bdAct13 _ _ | exact bdSes _ _ _ _ _ _ _ _ _ | exact bdLaz0 | exact bdLaz1 _ _ _ | exact bdLaz3 _ _ _ _ _ _ _ _ _)) rfl rfl (by kernel_rfl) rfl (by kernel_rfl) (by kernel_rfl) (fun _ _ _ h => h) ?_
                  refine GA.branch (rs := [10]) (JOk.dead (by kernel_rfl) (JOk.dead (by kernel_rfl) JOk.nil)) (by kernel_rfl) (by simp) ?_
                  refine GAs.cons rfl ?_ ?_
                  · -- F.1.9.6.7 op 10
                    refine GL.store_varN rfl rfl rfl Wpk (by rfl) (by rfl) (by rfl) ?_
                    refine GL.nil ?_
                    refine GE.any ?_
                    refine GA.done (JOk.dead (by kernel_rfl) (JOk.dead (by kernel_rfl) JOk.nil)) (by kernel_rfl) ?_
                    refine GE.mid ((g5, B13, g16, g19) : Nat × Option Addr × Nat × Nat) trivial Wkp Wsb
                  exact GAs.nil
                exact GAs.nil
              exact GAs.nil
            exact GAs.nil
          exact GAs.nil
        exact GAs.nil
      refine GAs.cons rfl ?_ ?_
      · -- F.9 op 9
        refine GL.alloc rfl ?_; intro g5
        refine GL.nil ?_
        refine GE.any ?_
        refine GA.branch (rs := [1]) (JOk.live (by exact Wlba) (JOk.live (by exact Wlba) JOk.nil)) (by kernel_rfl) (by simp) ?_
        refine GAs.cons rfl ?_ ?_
        · -- F.9 op 1
          refine GL.call rfl rfl (cloneInt_spec _ _ _ _ _ Wrd Wom) ?_
          rintro _ _ ⟨B13, rfl, rfl⟩
          refine GL.nil ?_
          refine GE.any ?_
          refine GA.branch (rs := [3]) (JOk.live (by exact Wlba) (JOk.live (by exact Wlba) JOk.nil)) (by kernel_rfl) (by simp) ?_
          refine GAs.cons rfl ?_ ?_
          · -- F.9 op 3
            refine GL.callF rfl rfl (size_spec _ _ _ _ _) ?_
            refine GL.nil ?_
            refine GE.any ?_
            refine GA.branch (rs := [4, 6]) (JOk.live (by exact Wlba) (JOk.dead (by kernel_rfl) JOk.nil)) (by kernel_rfl) (by simp) ?_
            refine GAs.cons rfl ?_ ?_
            · -- F.9.4 op 4
              refine GL.make rfl rfl Wik Wik (by omega) (by omega) rfl ?_; intro g16
              refine GL.nil ?_
              refine GE.any ?_
              refine GA.branch (rs := [6]) (JOk.live (by exact Wlba) (JOk.dead (by kernel_rfl) JOk.nil)) (by kernel_rfl) (by simp) ?_
              refine GAs.cons rfl ?_ ?_
              · -- F.9.4 op 6
                refine GL.callF rfl rfl (size_spec _ _ _ _ _) ?_
                refine GL.nil ?_
                refine GE.any ?_
                refine GA.branch (rs := [7]) (JOk.dead (by kernel_rfl) (JOk.dead (by kernel_rfl) JOk.nil)) (by kernel_rfl) (by simp) ?_
                refine GAs.cons rfl ?_ ?_
                · -- F.9.4 op 7
                  refine GL.make rfl rfl Wik Wik (by omega) (by omega) rfl ?_; intro g19
                  refine GL.nil ?_
                  refine GE.any ?_
                  refine GA.take 8 #[true, true, true, true, true, true, true, true, false, true, false] rfl (by exact Ev.build rfl (by first | exact bdPart ⟨_, _, _, _, _⟩ | exact bdReader _ _ _ | exact bdPart4 _ _ _ _ | exact bdForm _ _ _ | exact bdForm0 | exact bdGraph0 | exact bdGraph _ _ _ | exact bdNode1 _ | exact bdNode2 _ _ _ _ | exact bdHist0 | exact bdHist1 _ _ _ | exact bdHist2 _ _ _ _ | exact bdAct1 _ | exact bdAct2 _ _ | exact bdAct3 _ _ _ | exact bdAct13 _ _ | exact bdSes _ _ _ _ _ _ _ _ _ | exact bdLaz0 | exact bdLaz1 _ _ _ | exact bdLaz3 _ _ _ _ _ _ _ _ _)) rfl rfl (by kernel_rfl) rfl (by kernel_rfl) (by kernel_rfl) (fun _ _ _ h => h) ?_
                  refine GA.branch (rs := [10]) (JOk.dead (by kernel_rfl) (JOk.dead (by kernel_rfl) JOk.nil)) (by kernel_rfl) (by simp) ?_
                  refine GAs.cons rfl ?_ ?_
                  · -- F.9.4 op 10
                    refine GL.store_varN rfl rfl rfl Wpk (by rfl) (by rfl) (by rfl) ?_
                    refine GL.nil ?_
                    refine GE.any ?_
                    refine GA.done (JOk.dead (by kernel_rfl) (JOk.dead (by kernel_rfl) JOk.nil)) (by kernel_rfl) ?_
                    refine GE.mid ((g5, B13, g16, g19) : Nat × Option Addr × Nat × Nat) trivial Wkp Wsb
                  exact GAs.nil
                exact GAs.nil
              exact GAs.nil
            refine GAs.cons rfl ?_ ?_
            · -- F.9.6 op 6
              refine GL.callF rfl rfl (size_spec _ _ _ _ _) ?_
              refine GL.nil ?_
              refine GE.any ?_
              refine GA.branch (rs := [4, 7]) (JOk.dead (by kernel_rfl) (JOk.dead (by kernel_rfl) JOk.nil)) (by kernel_rfl) (by simp) ?_
              refine GAs.cons rfl ?_ ?_
              · -- F.9.6.4 op 4
                refine GL.make rfl rfl Wik Wik (by omega) (by omega) rfl ?_; intro g16
                refine GL.nil ?_
                refine GE.any ?_
                refine GA.branch (rs := [7]) (JOk.dead (by kernel_rfl) (JOk.dead (by kernel_rfl) JOk.nil)) (by kernel_rfl) (by simp) ?_
                refine GAs.cons rfl ?_ ?_
                · -- F.9.6.4 op 7
                  refine GL.make rfl rfl Wik Wik (by omega) (by omega) rfl ?_; intro g19
                  refine GL.nil ?_
                  refine GE.any ?_
                  refine GA.take 8 #[true, true, true, true, true, true, true, true, false, true, false] rfl (by exact Ev.build rfl (by first | exact bdPart ⟨_, _, _, _, _⟩ | exact bdReader _ _ _ | exact bdPart4 _ _ _ _ | exact bdForm _ _ _ | exact bdForm0 | exact bdGraph0 | exact bdGraph _ _ _ | exact bdNode1 _ | exact bdNode2 _ _ _ _ | exact bdHist0 | exact bdHist1 _ _ _ | exact bdHist2 _ _ _ _ | exact bdAct1 _ | exact bdAct2 _ _ | exact bdAct3 _ _ _ | exact bdAct13 _ _ | exact bdSes _ _ _ _ _ _ _ _ _ | exact bdLaz0 | exact bdLaz1 _ _ _ | exact bdLaz3 _ _ _ _ _ _ _ _ _)) rfl rfl (by kernel_rfl) rfl (by kernel_rfl) (by kernel_rfl) (fun _ _ _ h => h) ?_
                  refine GA.branch (rs := [10]) (JOk.dead (by kernel_rfl) (JOk.dead (by kernel_rfl) JOk.nil)) (by kernel_rfl) (by simp) ?_
                  refine GAs.cons rfl ?_ ?_
                  · -- F.9.6.4 op 10
                    refine GL.store_varN rfl rfl rfl Wpk (by rfl) (by rfl) (by rfl) ?_
                    refine GL.nil ?_
                    refine GE.any ?_
                    refine GA.done (JOk.dead (by kernel_rfl) (JOk.dead (by kernel_rfl) JOk.nil)) (by kernel_rfl) ?_
                    refine GE.mid ((g5, B13, g16, g19) : Nat × Option Addr × Nat × Nat) trivial Wkp Wsb
                  exact GAs.nil
                exact GAs.nil
              refine GAs.cons rfl ?_ ?_
              · -- F.9.6.7 op 7
                refine GL.make rfl rfl Wik Wik (by omega) (by omega) rfl ?_; intro g19
                refine GL.nil ?_
                refine GE.any ?_
                refine GA.branch (rs := [4]) (JOk.dead (by kernel_rfl) (JOk.dead (by kernel_rfl) JOk.nil)) (by kernel_rfl) (by simp) ?_
                refine GAs.cons rfl ?_ ?_
                · -- F.9.6.7 op 4
                  refine GL.make rfl rfl Wik Wik (by omega) (by omega) rfl ?_; intro g16
                  refine GL.nil ?_
                  refine GE.any ?_
                  refine GA.take 8 #[true, true, true, true, true, true, true, true, false, true, false] rfl (by exact Ev.build rfl (by first | exact bdPart ⟨_, _, _, _, _⟩ | exact bdReader _ _ _ | exact bdPart4 _ _ _ _ | exact bdForm _ _ _ | exact bdForm0 | exact bdGraph0 | exact bdGraph _ _ _ | exact bdNode1 _ | exact bdNode2 _ _ _ _ | exact bdHist0 | exact bdHist1 _ _ _ | exact bdHist2 _ _ _ _ | exact bdAct1 _ | exact bdAct2 _ _ | exact bdAct3 _ _ _ | exact bdAct13 _ _ | exact bdSes _ _ _ _ _ _ _ _ _ | exact bdLaz0 | exact bdLaz1 _ _ _ | exact bdLaz3 _ _ _ _ _ _ _ _ _)) rfl rfl (by kernel_rfl) rfl (by kernel_rfl) (by kernel_rfl) (fun _ _ _ h => h) ?_
                  refine GA.branch (rs := [10]) (JOk.dead (by kernel_rfl) (JOk.dead (by kernel_rfl) JOk.nil)) (by kernel_rfl) (by simp) ?_
                  refine GAs.cons rfl ?_ ?_
                  · -- F.9.6.7 op 10
                    refine GL.store_varN rfl rfl rfl Wpk (by rfl) (by rfl) (by rfl) ?_
                    refine GL.nil ?_
                    refine GE.any ?_
                    refine GA.done (JOk.dead (by kernel_rfl) (JOk.dead (by kernel_rfl) JOk.nil)) (by kernel_rfl) ?_
                    refine GE.mid ((g5, B13, g16, g19) : Nat × Option Addr × Nat × Nat) trivial Wkp Wsb
                  exact GAs.nil
                exact GAs.nil
              exact GAs.nil
            exact GAs.nil
          exact GAs.nil
        exact GAs.nil
      exact GAs.nil
    ·
      rintro ⟨g5, B13, g16, g19⟩ _
      dsimp only
      refine GC.seq ?_
      refine GC.seq ?_
      refine GC.region ?_
      refine GL.v Wfa ?_
      refine GL.v Wlb ?_
      refine GL.v Wln ?_
      refine GL.v Wmv ?_
      refine GL.nil ?_
      refine GE.seq ?_
      refine GC.block ?_
      -- loop 1: carried slots [24]
      refine GC.loopK (α := Nat) (fun i => i ≤ ms.length) (fun i => [(24, .int .i64 i)]) [(2, _), (4, _), (5, _), (23, _)] (fun i => row intE B13 xs.length xs :: row slE (some ⟨g16, 0, none⟩) ms.length (List.replicate ms.length ⟨none, 0, []⟩) :: row intE (some ⟨g19, 0, none⟩) ms.length (upL ms.length i (stS (gr ms)) 0) :: blk g5 62 [.slice B13 xs.length xs.length, .slice (some ⟨g16, 0, none⟩) ms.length ms.length, .slice (some ⟨g19, 0, none⟩) ms.length ms.length] :: blk g2 25 [.slice A ms.length c] :: blk g4 62 [.slice none 0 0, .slice none 0 0, .slice none 0 0] :: L) (fun i => ms.length - i) 0 Wkp (by rw [upL_zero]; exact Wsb) (Nat.zero_le _) ?_
      rintro i hi
      have hul : (upL ms.length i (stS (gr ms)) 0).length = ms.length := upL_length _ _ _ _
      refine GC.seq ?_
      refine GC.region ?_
      refine GL.v Wls ?_
      refine GL.nil ?_
      refine GE.seq ?_
      refine GC.seq ?_
      refine GC.ifs (fun h2 => ?_) (fun h2 => ?_)
      · -- FT
        have hil : i < ms.length := by omega
        have hki : kindAt (gr ms) i = ms[i].kind := by rw [kindAt_gr (k := i) (by omega)]; rfl
        refine GC.skip ?_
        refine GE.seq ?_
        refine GC.seq ?_
        refine GC.block ?_
        refine GC.seq ?_
        refine GC.region ?_
        refine GL.v Wmv ?_
        refine GL.v Wag ?_
        refine GL.nil ?_
        refine GE.seq ?_
        refine GC.seq ?_
        refine GC.region ?_
        refine GL.v Wlba ?_
        refine GL.v Wmv ?_
        refine GL.callF rfl rfl (cell_spec _ _ _ _ _ (by first | assumption | exact RdG.imp (by assumption) Wim | exact RdG.of_pick Wpk Wpk) _ (by first | omega | exact SizeG.le (by assumption))) ?_
        refine GL.v Wnt ?_
        refine GL.nil ?_
        refine GE.seq ?_
        refine GC.ifs (fun h3 => ?_) (fun h3 => ?_)
        · -- FTT
          refine GC.region ?_
          refine GL.v Wfa ?_
          refine GL.v Wlb ?_
          refine GL.v Wmv ?_
          refine GL.v Wix ?_
          refine GL.store_el rfl rfl Wpk rfl rfl rfl (by first | omega | (simp; done) | (simp; omega)) ?_
          refine GL.nil ?_
          refine GE.block ?_
          refine GE.seq ?_
          refine GC.region ?_
          refine GL.v Wad ?_
          refine GL.v Wmv ?_
          refine GL.nil ?_
          -- round of loop 1, path FTT
          rw [← stS_der (gs := gr ms) (i := i) (fun h => by rw [cellB_eq (by simpa using hil), gr_get] at h3; rw [hki] at h; simp [NdM.nd, h] at h3), upL_set (f := stS (gr ms)) hil]
          refine GE.round (i + 1) (by omega) (by omega) Wkp Wsb
        · -- FTF
          refine GC.skip ?_
          refine GE.block ?_
          refine GE.seq ?_
          refine GC.region ?_
          refine GL.v Wad ?_
          refine GL.v Wmv ?_
          refine GL.nil ?_
          -- round of loop 1, path FTF
          have hz := upL_set (f := stS (gr ms)) (z := 0) hil
          rw [stS_cell (gs := gr ms) (i := i) (cellB_iff.1 h3).2, upL_set0 hil] at hz
          rw [hz]
          refine GE.round (i + 1) (by omega) (by omega) Wkp Wsb
      · -- FF
        obtain rfl : i = ms.length := by omega
        rw [show upL ms.length ms.length (stS (gr ms)) 0 = startS (gr ms) by rw [upL_full (Nat.le_refl _), startS, gr_length]]
        refine GC.exit ?_
        refine GE.seq_exit ?_
        refine GE.loop_exit ?_
        refine GE.block_exit ?_
        refine GE.seq ?_
        refine GC.seq ?_
        refine GC.region ?_
        refine GL.v Wlba ?_
        refine GL.store_varN rfl rfl rfl Wpk (by rfl) (by rfl) (by rfl) ?_
        refine GL.nil ?_
        refine GE.seq ?_
        refine GC.ret ?_
        -- returns, path FF
        refine GE.state (fun _ hs => hs.nil_rows ms.length) ?_
        refine GE.ret_cell (L' := row intE B13 xs.length xs :: row slE (some ⟨g16, 0, none⟩) ms.length (List.replicate ms.length ⟨none, 0, []⟩) :: rowsA (List.replicate ms.length ⟨none, 0, []⟩) :: row intE (some ⟨g19, 0, none⟩) ms.length (startS (gr ms)) :: L) (.inl rfl) rfl rfl rfl (BlkRd.of_pick Wpk) (by rfl) Wsb ?_
        rw [lazX_yes h1, lazS_yes h1]
        exact ⟨_, _, _, _, List.replicate ms.length ⟨none, 0, []⟩, _, _, by rw [lazR_yes h1, li_nils, gr_length], by simp, rfl⟩
theorem startLazy_spec (w0 : World) (L : List Asn) (A : Option Addr) (c : Nat) (ms : List NdM) (hG : RdG w0 L A c ms) (B : Option Addr) (d : Nat) (xs : List Int) (hX : Rd w0 L intE B d xs) (hl : ms.length ≤ 10) (hx : xs.length = ms.length) :
    Tr Try.prog 77 #[.agg #[.slice A ms.length c], .slice B xs.length d] w0 L (fun v L' => ∃ X x R r ls S s, li ls = List.replicate ms.length [] ∧ v = .agg #[.slice X xs.length x, .slice R ls.length r, .slice S (startS (gr ms)).length s] ∧ L' = row intE X x xs :: row slE R r ls :: rowsA ls :: row intE S s (startS (gr ms)) :: L) := by
  have hN := hG.nodes
  refine Tr.enter (args := [.agg #[.slice A ms.length c], .slice B xs.length d]) Try.func77 Try.ntmps77 rfl rfl ?_
  refine GC.seq ?_
  refine GC.region ?_
  refine GL.box_agg rfl rfl ?_; intro g2
  refine GL.alloc rfl ?_; intro g4
  refine GL.nil ?_
  refine GE.seq ?_
  refine GC.seq ?_
  refine GC.region ?_
  refine GL.v Wmv ?_
  refine GL.call rfl rfl (copyInts_spec _ _ _ _ _ Wrd Wom) ?_
  rintro _ _ ⟨B9, d9, rfl, rfl⟩
  refine GL.v (by exact EvP.r (Ev.build rfl (by first | exact bdPart ⟨_, _, _, _, _⟩ | exact bdReader _ _ _ | exact bdPart4 _ _ _ _ | exact bdForm _ _ _ | exact bdForm0 | exact bdGraph0 | exact bdGraph _ _ _ | exact bdNode1 _ | exact bdNode2 _ _ _ _ | exact bdHist0 | exact bdHist1 _ _ _ | exact bdHist2 _ _ _ _ | exact bdAct1 _ | exact bdAct2 _ _ | exact bdAct3 _ _ _ | exact bdAct13 _ _ | exact bdSes _ _ _ _ _ _ _ _ _ | exact bdLaz0 | exact bdLaz1 _ _ _ | exact bdLaz3 _ _ _ _ _ _ _ _ _))) ?_
  refine GL.alloc rfl ?_; intro g5
  refine GL.store_varN rfl rfl rfl Wpk (by rfl) (by rfl) (by rfl) ?_
  refine GL.nil ?_
  refine GE.seq ?_
  refine GC.seq ?_
  refine GC.seq ?_
  refine GC.region ?_
  refine GL.v Wag ?_
  refine GL.nil ?_
  refine GE.seq ?_
  refine GC.block ?_
  -- loop 1: carried slots [6]
  refine GC.state (fun _ hs => ((hs.empty intE none).none_lists)) ?_
  refine GC.loopK (α := Nat × Option Addr × Nat × List LiM × Option Addr × Nat) (fun x => x.1 ≤ ms.length ∧ li x.2.2.2.1 = List.replicate x.1 []) (fun x => [(6, .int .i64 x.1)]) [(2, _), (4, _), (5, _)] (fun x => row slE x.2.1 x.2.2.1 x.2.2.2.1 :: rowsA x.2.2.2.1 :: row intE x.2.2.2.2.1 x.2.2.2.2.2 ((List.range x.1).map (stS (gr ms))) :: row intE B9 d9 xs :: blk g5 62 [.slice B9 xs.length d9, .slice x.2.1 x.2.2.2.1.length x.2.2.1, .slice x.2.2.2.2.1 ((List.range x.1).map (stS (gr ms))).length x.2.2.2.2.2] :: blk g2 25 [.slice A ms.length c] :: blk g4 62 [.slice none 0 0, .slice none 0 0, .slice none 0 0] :: L) (fun x => ms.length - x.1) (0, none, 0, [], none, 0) Wkp Wsb ⟨Nat.zero_le _, rfl⟩ ?_
  rintro ⟨i, R, r, ls, S, s⟩ ⟨hi, hli⟩
  dsimp only at hi hli ⊢
  have hll : ls.length = i := by have := congrArg List.length hli; simpa using this
  have hrl : ((List.range i).map (stS (gr ms))).length = i := by simp
  refine GC.seq ?_
  refine GC.seq ?_
  refine GC.region ?_
  refine GL.v Wmv ?_
  refine GL.v Wfa ?_
  refine GL.v Wlb ?_
  refine GL.v Wln ?_
  refine GL.v Wls ?_
  refine GL.nil ?_
  refine GE.seq ?_
  refine GC.ifs (fun h1 => ?_) (fun h1 => ?_)
  · -- T
    have hil : i < ms.length := by omega
    have hki : kindAt (gr ms) i = ms[i].kind := by rw [kindAt_gr (k := i) (by omega)]; rfl
    have hrs : (List.range (i + 1)).map (stS (gr ms)) = (List.range i).map (stS (gr ms)) ++ [stS (gr ms) i] := by rw [List.range_succ, List.map_append]; rfl
    refine GC.skip ?_
    refine GE.seq ?_
    refine GC.seq ?_
    refine GC.block ?_
    refine GC.seq ?_
    refine GC.region ?_
    refine GL.v Wag ?_
    refine GL.nil ?_
    refine GE.seq ?_
    refine GC.seq ?_
    refine GC.seq ?_
    refine GC.region ?_
    refine GL.v Wfa ?_
    refine GL.v Wlb ?_
    refine GL.v Wmv ?_
    refine GL.v Wix ?_
    refine GL.v Wfa ?_
    refine GL.v Wlef ?_
    refine GL.v Weq ?_
    refine GL.nil ?_
    refine GE.seq ?_
    refine GC.ifs (fun h2 => ?_) (fun h2 => ?_)
    · -- TT
      refine GC.region ?_
      refine GL.v Wag ?_
      refine GL.nil ?_
      refine GE.seq ?_
      refine GC.seq ?_
      refine GC.region ?_
      refine GL.v Wfa ?_
      refine GL.v Wlb ?_
      refine GL.buildSlice rfl (by first | exact bsInt0 | exact bsInt1 _ | exact bsInt2 _ _ | exact bsInt3 _ _ _ | exact bsInt4 _ _ _ _ | exact bsInt5 _ _ _ _ _ | exact bsInt6 _ _ _ _ _ _ | exact bsInt7 _ _ _ _ _ _ _ | exact bsInt8 _ _ _ _ _ _ _ _ | exact bsInt9 _ _ _ _ _ _ _ _ _ | exact bsInt10 _ _ _ _ _ _ _ _ _ _ | exact bsPart0 | exact bsPart1 ⟨_, _, _, _, _⟩ | exact bsNode1 ⟨_, _, _, _⟩ | exact bsPtr3 _ _ _ | exact bsSl0 | exact bsSl1 ⟨_, _, _⟩ | exact bsForm0 | exact bsForm1 ⟨_, _, _⟩ | exact bsAct0 | exact bsBool0 | exact bsAct1 ⟨_, _, _⟩) rfl (by decide) rfl ?_; intro g27
      refine GL.buildSlice rfl (bsSl1 ⟨some ⟨g27, 0, none⟩, 0, []⟩) rfl (by decide) rfl ?_; intro g28
      first | (refine GL.append rfl rfl Wpk (by assumption) Wim (by first | rfl | (simp; done) | (simp; omega)) (by first | rfl | (simp; done) | (simp; omega)) (by first | omega | (simp; omega)) (by first | omega | (simp; omega)) rfl ?_; intro A29 c29) | (refine GL.append rfl rfl Wpk (Rd.of_pick Wpk) Imp.refl (by first | rfl | (simp; done) | (simp; omega)) (by first | rfl | (simp; done) | (simp; omega)) (by first | omega | (simp; omega)) (by first | omega | (simp; omega)) rfl ?_; intro A29 c29)
      refine GL.v Wfa ?_
      refine GL.store_blk rfl rfl rfl Wpk (Nat.lt_of_lt_of_le (Nat.le_of_ble_eq_true (by rfl)) (Nat.le_refl _)) (by rfl) (by rfl) ?_
      refine GL.nil ?_
      refine GE.seq ?_
      refine GC.region ?_
      refine GL.v Wfa ?_
      refine GL.v Wlb ?_
      refine GL.v Wmv ?_
      refine GL.buildSlice rfl (by first | exact bsInt0 | exact bsInt1 _ | exact bsInt2 _ _ | exact bsInt3 _ _ _ | exact bsInt4 _ _ _ _ | exact bsInt5 _ _ _ _ _ | exact bsInt6 _ _ _ _ _ _ | exact bsInt7 _ _ _ _ _ _ _ | exact bsInt8 _ _ _ _ _ _ _ _ | exact bsInt9 _ _ _ _ _ _ _ _ _ | exact bsInt10 _ _ _ _ _ _ _ _ _ _ | exact bsPart0 | exact bsPart1 ⟨_, _, _, _, _⟩ | exact bsNode1 ⟨_, _, _, _⟩ | exact bsPtr3 _ _ _ | exact bsSl0 | exact bsSl1 ⟨_, _, _⟩ | exact bsForm0 | exact bsForm1 ⟨_, _, _⟩ | exact bsAct0 | exact bsBool0 | exact bsAct1 ⟨_, _, _⟩) rfl (by decide) rfl ?_; intro g34
      first | (refine GL.append rfl rfl Wpk (by assumption) Wim (by first | rfl | (simp; done) | (simp; omega)) (by first | rfl | (simp; done) | (simp; omega)) (by first | omega | (simp; omega)) (by first | omega | (simp; omega)) rfl ?_; intro A35 c35) | (refine GL.append rfl rfl Wpk (Rd.of_pick Wpk) Imp.refl (by first | rfl | (simp; done) | (simp; omega)) (by first | rfl | (simp; done) | (simp; omega)) (by first | omega | (simp; omega)) (by first | omega | (simp; omega)) rfl ?_; intro A35 c35)
      refine GL.v Wfa ?_
      refine GL.store_blk rfl rfl rfl Wpk (Nat.lt_of_lt_of_le (Nat.le_of_ble_eq_true (by rfl)) (Nat.le_refl _)) (by rfl) (by rfl) ?_
      refine GL.nil ?_
      refine GE.block ?_
      refine GE.seq ?_
      refine GC.region ?_
      refine GL.v Wmv ?_
      refine GL.v Wad ?_
      refine GL.v Wag ?_
      refine GL.nil ?_
      -- round of loop 1, path TT
      rw [← stS_cell (gs := gr ms) (i := i) (hki.trans h2), ← hrs]
      refine GE.rows_snoc ⟨some ⟨g27, 0, none⟩, 0, []⟩ Wpk Wpk ?_
      refine GE.round (i + 1, _, _, ls ++ [⟨some ⟨g27, 0, none⟩, 0, []⟩], _, _) ⟨by dsimp only; omega, by dsimp only; rw [List.replicate_succ', ← hli]; simp [li]⟩ (by dsimp only; omega) Wkp Wsb
    · -- TF
      refine GC.skip ?_
      refine GE.seq ?_
      refine GC.seq ?_
      refine GC.region ?_
      refine GL.v Wfa ?_
      refine GL.v Wlb ?_
      refine GL.buildSlice rfl (by first | exact bsInt0 | exact bsInt1 _ | exact bsInt2 _ _ | exact bsInt3 _ _ _ | exact bsInt4 _ _ _ _ | exact bsInt5 _ _ _ _ _ | exact bsInt6 _ _ _ _ _ _ | exact bsInt7 _ _ _ _ _ _ _ | exact bsInt8 _ _ _ _ _ _ _ _ | exact bsInt9 _ _ _ _ _ _ _ _ _ | exact bsInt10 _ _ _ _ _ _ _ _ _ _ | exact bsPart0 | exact bsPart1 ⟨_, _, _, _, _⟩ | exact bsNode1 ⟨_, _, _, _⟩ | exact bsPtr3 _ _ _ | exact bsSl0 | exact bsSl1 ⟨_, _, _⟩ | exact bsForm0 | exact bsForm1 ⟨_, _, _⟩ | exact bsAct0 | exact bsBool0 | exact bsAct1 ⟨_, _, _⟩) rfl (by decide) rfl ?_; intro g27
      refine GL.buildSlice rfl (bsSl1 ⟨some ⟨g27, 0, none⟩, 0, []⟩) rfl (by decide) rfl ?_; intro g28
      first | (refine GL.append rfl rfl Wpk (by assumption) Wim (by first | rfl | (simp; done) | (simp; omega)) (by first | rfl | (simp; done) | (simp; omega)) (by first | omega | (simp; omega)) (by first | omega | (simp; omega)) rfl ?_; intro A29 c29) | (refine GL.append rfl rfl Wpk (Rd.of_pick Wpk) Imp.refl (by first | rfl | (simp; done) | (simp; omega)) (by first | rfl | (simp; done) | (simp; omega)) (by first | omega | (simp; omega)) (by first | omega | (simp; omega)) rfl ?_; intro A29 c29)
      refine GL.v Wfa ?_
      refine GL.store_blk rfl rfl rfl Wpk (Nat.lt_of_lt_of_le (Nat.le_of_ble_eq_true (by rfl)) (Nat.le_refl _)) (by rfl) (by rfl) ?_
      refine GL.nil ?_
      refine GE.seq ?_
      refine GC.region ?_
      refine GL.v Wfa ?_
      refine GL.v Wlb ?_
      refine GL.v Wmv ?_
      refine GL.buildSlice rfl (by first | exact bsInt0 | exact bsInt1 _ | exact bsInt2 _ _ | exact bsInt3 _ _ _ | exact bsInt4 _ _ _ _ | exact bsInt5 _ _ _ _ _ | exact bsInt6 _ _ _ _ _ _ | exact bsInt7 _ _ _ _ _ _ _ | exact bsInt8 _ _ _ _ _ _ _ _ | exact bsInt9 _ _ _ _ _ _ _ _ _ | exact bsInt10 _ _ _ _ _ _ _ _ _ _ | exact bsPart0 | exact bsPart1 ⟨_, _, _, _, _⟩ | exact bsNode1 ⟨_, _, _, _⟩ | exact bsPtr3 _ _ _ | exact bsSl0 | exact bsSl1 ⟨_, _, _⟩ | exact bsForm0 | exact bsForm1 ⟨_, _, _⟩ | exact bsAct0 | exact bsBool0 | exact bsAct1 ⟨_, _, _⟩) rfl (by decide) rfl ?_; intro g34
      first | (refine GL.append rfl rfl Wpk (by assumption) Wim (by first | rfl | (simp; done) | (simp; omega)) (by first | rfl | (simp; done) | (simp; omega)) (by first | omega | (simp; omega)) (by first | omega | (simp; omega)) rfl ?_; intro A35 c35) | (refine GL.append rfl rfl Wpk (Rd.of_pick Wpk) Imp.refl (by first | rfl | (simp; done) | (simp; omega)) (by first | rfl | (simp; done) | (simp; omega)) (by first | omega | (simp; omega)) (by first | omega | (simp; omega)) rfl ?_; intro A35 c35)
      refine GL.v Wfa ?_
      refine GL.store_blk rfl rfl rfl Wpk (Nat.lt_of_lt_of_le (Nat.le_of_ble_eq_true (by rfl)) (Nat.le_refl _)) (by rfl) (by rfl) ?_
      refine GL.nil ?_
      refine GE.block ?_
      refine GE.seq ?_
      refine GC.region ?_
      refine GL.v Wmv ?_
      refine GL.v Wad ?_
      refine GL.v Wag ?_
      refine GL.nil ?_
      -- round of loop 1, path TF
      rw [← stS_der (gs := gr ms) (i := i) (fun h => h2 (hki.symm.trans h)), ← hrs]
      refine GE.rows_snoc ⟨some ⟨g27, 0, none⟩, 0, []⟩ Wpk Wpk ?_
      refine GE.round (i + 1, _, _, ls ++ [⟨some ⟨g27, 0, none⟩, 0, []⟩], _, _) ⟨by dsimp only; omega, by dsimp only; rw [List.replicate_succ', ← hli]; simp [li]⟩ (by dsimp only; omega) Wkp Wsb
  · -- F
    obtain rfl : i = ms.length := by omega
    rw [show (List.range ms.length).map (stS (gr ms)) = startS (gr ms) by rw [startS, gr_length]]
    refine GC.exit ?_
    refine GE.seq_exit ?_
    refine GE.loop_exit ?_
    refine GE.block_exit ?_
    refine GE.seq ?_
    refine GC.seq ?_
    refine GC.region ?_
    refine GL.v Wlba ?_
    refine GL.store_varN rfl rfl rfl Wpk (by rfl) (by rfl) (by rfl) ?_
    refine GL.nil ?_
    refine GE.seq ?_
    refine GC.ret ?_
    -- returns, path F
    refine GE.ret_cell (L' := row intE B9 d9 xs :: row slE R r ls :: rowsA ls :: row intE S s (startS (gr ms)) :: L) (.inl rfl) rfl rfl rfl (BlkRd.of_pick Wpk) (by rfl) Wsb ?_
    exact ⟨_, _, _, _, ls, _, _, hli, rfl, rfl⟩
theorem sStartLazy_spec (w0 : World) (L : List Asn) (A : Option Addr) (c : Nat) (ms : List NdM) (hG : RdG w0 L A c ms) (B : Option Addr) (d : Nat) (xs : List Int) (hX : Rd w0 L intE B d xs) (hS : SizeG ms) (hx : xs.length ≤ 1100000) :
    Tr Try.prog 41 #[.agg #[.slice A ms.length c], .slice B xs.length d] w0 L (fun v L' => ∃ X x R r ls S s, li ls = lazR (gr ms) xs ∧ v = .agg #[.slice X (lazX (gr ms) xs).length x, .slice R ls.length r, .slice S (lazS (gr ms) xs).length s] ∧ L' = row intE X x (lazX (gr ms) xs) :: row slE R r ls :: rowsA ls :: row intE S s (lazS (gr ms) xs) :: L) := by
  have hSl := hS.1
  refine Tr.enter (args := [.agg #[.slice A ms.length c], .slice B xs.length d]) Try.func41 Try.ntmps41 rfl rfl ?_
  refine GC.seq ?_
  refine GC.region ?_
  refine GL.box_agg rfl rfl ?_; intro g2
  refine GL.alloc rfl ?_; intro g4
  refine GL.nil ?_
  refine GE.seq ?_
  refine GC.seq ?_
  refine GC.seq ?_
  refine GC.region ?_
  refine GL.v Wlba ?_
  refine GL.callF rfl rfl (svalidGraph_spec _ _ _ _ _ (by first | assumption | exact RdG.imp (by assumption) Wim | exact RdG.of_pick Wpk Wpk) (by assumption)) ?_
  refine GL.v Wnt ?_
  refine GL.v Wmv ?_
  refine GL.gs (fun h1 => ?_) (fun h1 => ?_)
  · -- t
    refine GL.unwant rfl rfl rfl rfl ?_
    refine GL.unwant rfl rfl rfl rfl ?_
    refine GL.unwant rfl rfl rfl rfl ?_
    refine GL.unwant rfl rfl rfl rfl ?_
    refine GL.v Wpt ?_
    refine GL.nil ?_
    refine GE.seq ?_
    refine GC.cond_true rfl ?_
    refine GC.seq ?_
    refine GC.region ?_
    refine GL.v (by exact EvP.r (Ev.build rfl (by first | exact bdPart ⟨_, _, _, _, _⟩ | exact bdReader _ _ _ | exact bdPart4 _ _ _ _ | exact bdForm _ _ _ | exact bdForm0 | exact bdGraph0 | exact bdGraph _ _ _ | exact bdNode1 _ | exact bdNode2 _ _ _ _ | exact bdHist0 | exact bdHist1 _ _ _ | exact bdHist2 _ _ _ _ | exact bdAct1 _ | exact bdAct2 _ _ | exact bdAct3 _ _ _ | exact bdAct13 _ _ | exact bdSes _ _ _ _ _ _ _ _ _ | exact bdLaz0 | exact bdLaz1 _ _ _ | exact bdLaz3 _ _ _ _ _ _ _ _ _))) ?_
    refine GL.store_varN rfl rfl rfl Wpk (by rfl) (by rfl) (by rfl) ?_
    refine GL.nil ?_
    refine GE.seq ?_
    refine GC.ret ?_
    refine GE.seq_ret ?_
    -- returns, path t
    refine GE.state (fun _ hs => hs.none_lazy) ?_
    refine GE.ret_cell (L' := row intE none 0 [] :: row slE none 0 [] :: rowsA [] :: row intE none 0 [] :: L) (.inl rfl) rfl rfl rfl (BlkRd.of_pick Wpk) (by rfl) Wsb ?_
    have hC : cellsV (gr ms) xs = false := by rw [cellsV, h1]; rfl
    rw [lazX_no hC, lazS_no hC]
    exact ⟨none, 0, none, 0, [], none, 0, by rw [lazR_no hC]; rfl, rfl, rfl⟩
  · -- f
    refine GL.want rfl rfl ?_
    refine GL.v Wlba ?_
    refine GL.want rfl rfl ?_
    refine GL.v Wmv ?_
    refine GL.want rfl rfl ?_
    refine GL.callF rfl rfl (svalidCells_spec _ _ _ _ _ (by first | assumption | exact RdG.imp (by assumption) Wim | exact RdG.of_pick Wpk Wpk) _ _ _ Wrd Wom) ?_
    refine GL.want rfl rfl ?_
    refine GL.v Wnt ?_
    refine GL.v Wpf ?_
    refine GL.nil ?_
    refine GE.seq ?_
    refine GC.ifs (fun h2 => ?_) (fun h2 => ?_)
    · -- fT
      refine GC.seq ?_
      refine GC.region ?_
      refine GL.v (by exact EvP.r (Ev.build rfl (by first | exact bdPart ⟨_, _, _, _, _⟩ | exact bdReader _ _ _ | exact bdPart4 _ _ _ _ | exact bdForm _ _ _ | exact bdForm0 | exact bdGraph0 | exact bdGraph _ _ _ | exact bdNode1 _ | exact bdNode2 _ _ _ _ | exact bdHist0 | exact bdHist1 _ _ _ | exact bdHist2 _ _ _ _ | exact bdAct1 _ | exact bdAct2 _ _ | exact bdAct3 _ _ _ | exact bdAct13 _ _ | exact bdSes _ _ _ _ _ _ _ _ _ | exact bdLaz0 | exact bdLaz1 _ _ _ | exact bdLaz3 _ _ _ _ _ _ _ _ _))) ?_
      refine GL.store_varN rfl rfl rfl Wpk (by rfl) (by rfl) (by rfl) ?_
      refine GL.nil ?_
      refine GE.seq ?_
      refine GC.ret ?_
      refine GE.seq_ret ?_
      -- returns, path fT
      refine GE.state (fun _ hs => hs.none_lazy) ?_
      refine GE.ret_cell (L' := row intE none 0 [] :: row slE none 0 [] :: rowsA [] :: row intE none 0 [] :: L) (.inl rfl) rfl rfl rfl (BlkRd.of_pick Wpk) (by rfl) Wsb ?_
      have hC : cellsV (gr ms) xs = false := by rw [cellsV, h2]; simp
      rw [lazX_no hC, lazS_no hC]
      exact ⟨none, 0, none, 0, [], none, 0, by rw [lazR_no hC]; rfl, rfl, rfl⟩
    · -- fF
      have hC : cellsV (gr ms) xs = true := by rw [cellsV, h1, h2]; rfl
      have hxl := (cellsV_len hC).1
      have hl10 := (cellsV_len hC).2
      rw [gr_length] at hxl hl10
      refine GC.skip ?_
      refine GE.seq ?_
      refine GC.seq ?_
      refine GC.region ?_
      refine GL.v Wlba ?_
      refine GL.v Wmv ?_
      refine GL.call rfl rfl (startLazy_spec w0 _ A c ms (by first | assumption | exact RdG.imp (by assumption) Wim | exact RdG.of_pick Wpk Wpk) B d xs (hX.imp Wim) hl10 hxl) ?_
      rintro _ _ ⟨X, x, R, r, ls, S, s, hli, rfl, rfl⟩
      refine GL.store_varN rfl rfl rfl Wpk (by rfl) (by rfl) (by rfl) ?_
      refine GL.nil ?_
      refine GE.seq ?_
      refine GC.ret ?_
      -- returns, path fF
      refine GE.ret_cell (L' := row intE X x xs :: row slE R r ls :: rowsA ls :: row intE S s (startS (gr ms)) :: L) (.inl rfl) rfl rfl rfl (BlkRd.of_pick Wpk) (by rfl) Wsb ?_
      rw [lazX_yes hC, lazS_yes hC]
      exact ⟨X, x, R, r, ls, S, s, by rw [lazR_yes hC, hli, gr_length], rfl, rfl⟩
end SG
