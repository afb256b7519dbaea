/- Contracts: drawn graphs with a node; two lists joined. -/
import Derived.Test.YtphapjfhcbledaaD10
import Derived.Test.YtphapjfhcbledaaPlain10
namespace SG
open Go Go.RowKit Go.Proofs
set_option linter.unusedVariables false
set_option linter.unusedSimpArgs false
set_option maxRecDepth 100000
theorem nodeOf_spec (w0 : World) (L : List Asn) (g : Nat) (A : Option Addr) (c : Nat) (bs : List Int) (hC : Code0 w0 A c bs) (p : Int) (p0 : 0 ≤ p) (p1 : p ≤ 500000) :
    Tr Try.prog 54 #[.pointer (some ⟨g, 0, none⟩)] w0 (rdr g A c bs p :: L) (fun v L' => ∃ (D : Option Addr) (e : Nat) (ms : List NdM) (n : Int) (p' : Int), v = .tuple #[.agg #[.slice D ms.length e], .int .i64 n] ∧ 2 ≤ ms.length ∧ ms.length ≤ 10 ∧ (∀ m ∈ ms, m.parts.length ≤ 12) ∧ -1 ≤ n ∧ n ≤ 10 ∧ p ≤ p' ∧ p' ≤ p + 2400 ∧ L' = row nodeE D e ms :: partsA ms :: rdr g A c bs p' :: L) := by
  refine Tr.enter (args := [.pointer (some ⟨g, 0, none⟩)]) Try.func54 Try.ntmps54 rfl rfl ?_
  refine GC.seq ?_
  refine GC.region ?_
  refine GL.alloc rfl ?_; intro g2
  refine GL.v Wag ?_
  refine GL.nil ?_
  refine GE.seq ?_
  refine GC.seq ?_
  refine GC.region ?_
  refine GL.v Wmv ?_
  refine GL.callP rfl rfl Wpk (someGraph_spec _ _ _ _ _ _ (by assumption) _ Wom Wom) ?_
  rintro _ _ ⟨D6, e6, ms6, p6, rfl, ms6a, ms6b, ms6c, p6a, p6b, rfl⟩
  refine GL.alloc rfl ?_; intro g4
  refine GL.store_varN rfl rfl rfl Wpk (by rfl) (by rfl) (by rfl) ?_
  refine GL.nil ?_
  refine GE.seq ?_
  refine GC.seq ?_
  refine GC.region_any #[false, false, false, false, false, false, true, false, false, false, false, true, false, false, false, false, true, true, true, false] mixed ?_
  refine GA.read 0 #[false, true, true, true, true, true, true, true, true, true, true, true, true, true, true, true, true, true, false, false] rfl (by exact Wlba) rfl rfl (by kernel_rfl) rfl (by kernel_rfl) (by kernel_rfl) (fun _ _ _ h => h) ?_
  refine GA.take 1 #[true, false, true, true, true, true, true, true, true, true, true, true, true, true, true, true, true, false, false, false] rfl (by exact Ev.move rfl) rfl rfl (by kernel_rfl) rfl (by kernel_rfl) (by kernel_rfl) (fun _ _ _ h => h) ?_
  refine GA.take 2 #[true, true, false, true, true, true, false, true, true, true, true, false, true, true, true, true, false, false, false, false] rfl (by exact Ev.move rfl) rfl rfl (by kernel_rfl) rfl (by kernel_rfl) (by kernel_rfl) (fun _ _ _ h => h) ?_
  refine GA.take 3 #[true, true, true, false, false, false, false, true, true, true, true, false, true, true, true, true, false, false, false, false] rfl (by exact Ev.fieldAddr rfl) rfl rfl (by kernel_rfl) rfl (by kernel_rfl) (by kernel_rfl) (fun _ _ _ h => h) ?_
  refine GA.read 4 #[true, true, true, true, false, false, false, true, true, true, true, false, true, true, true, true, false, false, false, false] rfl (by exact Wlb) rfl rfl (by kernel_rfl) rfl (by kernel_rfl) (by kernel_rfl) (fun _ _ _ h => h) ?_
  refine GA.take 5 #[true, true, true, true, true, false, false, true, true, true, true, false, true, true, true, true, false, false, false, false] rfl (by exact Ev.len rfl) rfl rfl (by kernel_rfl) rfl (by kernel_rfl) (by kernel_rfl) (fun _ _ _ h => h) ?_
  refine GA.take 7 #[true, true, true, true, true, true, true, false, true, true, true, false, true, true, true, true, false, false, false, false] rfl (by exact Ev.move rfl) rfl rfl (by kernel_rfl) rfl (by kernel_rfl) (by kernel_rfl) (fun _ _ _ h => h) ?_
  refine GA.take 8 #[true, true, true, true, true, true, true, true, false, false, false, false, true, true, true, true, false, false, false, false] rfl (by exact Ev.fieldAddr rfl) rfl rfl (by kernel_rfl) rfl (by kernel_rfl) (by kernel_rfl) (fun _ _ _ h => h) ?_
  refine GA.read 9 #[true, true, true, true, true, true, true, true, true, false, false, false, true, true, true, true, false, false, false, false] rfl (by exact Wlb) rfl rfl (by kernel_rfl) rfl (by kernel_rfl) (by kernel_rfl) (fun _ _ _ h => h) ?_
  refine GA.take 10 #[true, true, true, true, true, true, true, true, true, true, false, false, true, true, true, true, false, false, false, false] rfl (by exact Ev.len rfl) rfl rfl (by kernel_rfl) rfl (by kernel_rfl) (by kernel_rfl) (fun _ _ _ h => h) ?_
  refine GA.take 12 #[true, true, true, true, true, true, true, true, true, true, true, true, false, false, false, false, false, false, false, false] rfl (by exact Ev.fieldAddr rfl) rfl rfl (by kernel_rfl) rfl (by kernel_rfl) (by kernel_rfl) (fun _ _ _ h => h) ?_
  refine GA.read 13 #[true, true, true, true, true, true, true, true, true, true, true, true, true, false, false, false, false, false, false, false] rfl (by exact Wlb) rfl rfl (by kernel_rfl) rfl (by kernel_rfl) (by kernel_rfl) (fun _ _ _ h => h) ?_
  refine GA.take 14 #[true, true, true, true, true, true, true, true, true, true, true, true, true, true, false, false, false, false, false, false] rfl (by exact Ev.len rfl) rfl rfl (by kernel_rfl) rfl (by kernel_rfl) (by kernel_rfl) (fun _ _ _ h => h) ?_
  refine GA.take 15 #[true, true, true, true, true, true, true, true, true, true, true, true, true, true, true, false, false, false, false, false] rfl (by exact Ev.sub rfl rfl (by omega)) rfl rfl (by kernel_rfl) rfl (by kernel_rfl) (by kernel_rfl) (fun _ _ _ h => h) ?_
  refine GA.branch (rs := [6]) (JOk.live (by exact Wlb) (JOk.live (by exact Wlb) (JOk.live (by exact Wlb) (JOk.live (by exact Wlba) JOk.nil)))) (by kernel_rfl) (by simp) ?_
  refine GAs.cons rfl ?_ ?_
  · --  op 6
    refine GL.front (A := rdr _ _ _ _ _) Wpk ?_
    refine GL.call rfl rfl (pick_spec _ _ _ _ _ _ (by assumption) _ _ (by omega) (by omega) (by omega) (by omega)) ?_
    rintro _ _ ⟨x13, rfl, x13a, x13b, x13c, rfl⟩
    refine GL.nil ?_
    refine GE.any ?_
    refine GA.branch (rs := [11]) (JOk.live (by exact Wlb) (JOk.live (by exact Wlb) (JOk.dead (by kernel_rfl) (JOk.live (by exact Wlba) JOk.nil)))) (by kernel_rfl) (by simp) ?_
    refine GAs.cons rfl ?_ ?_
    · --  op 11
      refine GL.front (A := rdr _ _ _ _ _) Wpk ?_
      refine GL.call rfl rfl (pick_spec _ _ _ _ _ _ (by assumption) _ _ (by omega) (by omega) (by omega) (by omega)) ?_
      rintro _ _ ⟨x18, rfl, x18a, x18b, x18c, rfl⟩
      refine GL.nil ?_
      refine GE.any ?_
      refine GA.branch (rs := [16]) (JOk.live (by exact Wlb) (JOk.dead (by kernel_rfl) (JOk.dead (by kernel_rfl) (JOk.live (by exact Wlba) JOk.nil)))) (by kernel_rfl) (by simp) ?_
      refine GAs.cons rfl ?_ ?_
      · --  op 16
        refine GL.buildSlice rfl (by first | exact bsInt0 | exact bsInt1 _ | exact bsInt2 _ _ | exact bsInt3 _ _ _ | exact bsInt4 _ _ _ _ | exact bsInt5 _ _ _ _ _ | exact bsInt6 _ _ _ _ _ _ | exact bsInt7 _ _ _ _ _ _ _ | exact bsInt8 _ _ _ _ _ _ _ _ | exact bsInt9 _ _ _ _ _ _ _ _ _ | exact bsInt10 _ _ _ _ _ _ _ _ _ _ | exact bsPart0 | exact bsPart1 ⟨_, _, _, _, _⟩ | exact bsNode1 ⟨_, _, _, _⟩ | exact bsPtr3 _ _ _) rfl (by decide) rfl ?_; intro g23
        refine GL.nil ?_
        refine GE.any ?_
        refine GA.branch (rs := [17]) (JOk.dead (by kernel_rfl) (JOk.dead (by kernel_rfl) (JOk.dead (by kernel_rfl) (JOk.live (by exact Wlba) JOk.nil)))) (by kernel_rfl) (by simp) ?_
        refine GAs.cons rfl ?_ ?_
        · --  op 17
          refine GL.front (A := rdr _ _ _ _ _) Wpk ?_
          refine GL.call rfl rfl (one_spec _ _ _ _ _ _ (by assumption) _ (by omega) (by omega) _ _ _ (by first | exact Rd.of_pick Wpk | exact Rd.imp (by assumption) Wim) _ (by rfl) (by first | omega | (simp; done) | (simp; omega)) (by first | omega | (simp; done) | (simp; omega))) ?_
          rintro _ _ ⟨x24, rfl, x24m, rfl⟩
          refine GL.nil ?_
          refine GE.any ?_
          refine GA.branch (rs := [18]) (JOk.dead (by kernel_rfl) (JOk.dead (by kernel_rfl) (JOk.dead (by kernel_rfl) (JOk.live (by exact Wlba) JOk.nil)))) (by kernel_rfl) (by simp) ?_
          refine GAs.cons rfl ?_ ?_
          · --  op 18
            refine GL.store_varN rfl rfl rfl Wpk (by rfl) (by rfl) (by rfl) ?_
            refine GL.nil ?_
            refine GE.any ?_
            refine GA.take 19 #[true, true, true, true, true, true, true, true, true, true, true, true, true, true, true, true, true, true, true, false] rfl (by exact Ev.assign rfl) rfl rfl (by kernel_rfl) rfl (by kernel_rfl) (by kernel_rfl) (fun _ _ _ h => h) ?_
            refine GA.done (JOk.dead (by kernel_rfl) (JOk.dead (by kernel_rfl) (JOk.dead (by kernel_rfl) (JOk.dead (by kernel_rfl) JOk.nil)))) (by kernel_rfl) ?_
            refine GE.seq ?_
            refine GC.ret ?_
            -- returns, path 
            refine GE.res2 (L' := row nodeE D6 e6 ms6 :: partsA ms6 :: rdr g A c bs (p6 + 1 + 1 + 1) :: L) (.inl rfl) rfl (Res1.cell rfl rfl (BlkRd.of_pick Wpk) (by rfl)) (Res1.tmp rfl) Wsb ?_
            have hx : -1 ≤ x24 ∧ x24 ≤ 10 := by simp at x24m; omega
            exact ⟨_, _, _, _, _, rfl, ms6a, ms6b, ms6c, hx.1, hx.2, by omega, by omega, rfl⟩
          exact GAs.nil
        exact GAs.nil
      exact GAs.nil
    exact GAs.nil
  exact GAs.nil
theorem DrawHeightsOf_spec (w0 : World) (L : List Asn) (A : Option Addr) (c : Nat) (bs : List Int) (hR : Rd w0 [] byteE A c bs) (hb : ∀ x ∈ bs, 0 ≤ x ∧ x ≤ 255) (hl : bs.length ≤ 1048576) (hc : bs.length ≤ c) :
    Tr Try.prog 13 #[.slice A bs.length c] w0 L (fun v L' => ∃ (D : Option Addr) (e : Nat) (ms : List NdM), v = .agg #[.slice D ms.length e] ∧ 2 ≤ ms.length ∧ ms.length ≤ 10 ∧ (∀ m ∈ ms, m.parts.length ≤ 12) ∧ L' = row nodeE D e ms :: partsA ms :: L) := by
  have hC := Code0.take hR hb
  refine Tr.enter (args := [.slice A bs.length c]) Try.func13 Try.ntmps13 rfl rfl ?_
  refine GC.seq ?_
  refine GC.region ?_
  refine GL.alloc rfl ?_; intro g2
  refine GL.nil ?_
  refine GE.seq ?_
  refine GC.seq ?_
  refine GC.region ?_
  refine GL.v Wmv ?_
  refine GL.call rfl rfl (newReader_spec _ _ _ _ _ (by assumption) Wom Wom) ?_
  rintro _ _ ⟨g4, rfl, rfl⟩
  refine GL.callP rfl rfl Wpk (someGraph_spec _ _ _ _ _ _ (by assumption) _ Wom Wom) ?_
  rintro _ _ ⟨D5, e5, ms5, p5, rfl, ms5a, ms5b, ms5c, p5a, p5b, rfl⟩
  refine GL.store_varN rfl rfl rfl Wpk (by rfl) (by rfl) (by rfl) ?_
  refine GL.nil ?_
  refine GE.seq ?_
  refine GC.ret ?_
  -- returns, path 
  refine GE.ret_cell (L' := row nodeE D5 e5 ms5 :: partsA ms5 :: L) (.inl rfl) rfl rfl rfl (BlkRd.of_pick Wpk) (by rfl) Wsb ?_
  exact ⟨_, _, _, rfl, ms5a, ms5b, ms5c, rfl⟩
theorem DrawWatchedOf_spec (w0 : World) (L : List Asn) (A : Option Addr) (c : Nat) (bs : List Int) (hR : Rd w0 [] byteE A c bs) (hb : ∀ x ∈ bs, 0 ≤ x ∧ x ≤ 255) (hl : bs.length ≤ 1048576) (hc : bs.length ≤ c) :
    Tr Try.prog 32 #[.slice A bs.length c] w0 L (fun v L' => ∃ (D : Option Addr) (e : Nat) (ms : List NdM), v = .agg #[.slice D ms.length e] ∧ 2 ≤ ms.length ∧ ms.length ≤ 10 ∧ (∀ m ∈ ms, m.parts.length ≤ 12) ∧ L' = row nodeE D e ms :: partsA ms :: L) := by
  have hC := Code0.take hR hb
  refine Tr.enter (args := [.slice A bs.length c]) Try.func32 Try.ntmps32 rfl rfl ?_
  refine GC.seq ?_
  refine GC.region ?_
  refine GL.alloc rfl ?_; intro g2
  refine GL.nil ?_
  refine GE.seq ?_
  refine GC.seq ?_
  refine GC.region ?_
  refine GL.v Wmv ?_
  refine GL.call rfl rfl (newReader_spec _ _ _ _ _ (by assumption) Wom Wom) ?_
  rintro _ _ ⟨g4, rfl, rfl⟩
  refine GL.callP rfl rfl Wpk (someGraph_spec _ _ _ _ _ _ (by assumption) _ Wom Wom) ?_
  rintro _ _ ⟨D5, e5, ms5, p5, rfl, ms5a, ms5b, ms5c, p5a, p5b, rfl⟩
  refine GL.store_varN rfl rfl rfl Wpk (by rfl) (by rfl) (by rfl) ?_
  refine GL.nil ?_
  refine GE.seq ?_
  refine GC.ret ?_
  -- returns, path 
  refine GE.ret_cell (L' := row nodeE D5 e5 ms5 :: partsA ms5 :: L) (.inl rfl) rfl rfl rfl (BlkRd.of_pick Wpk) (by rfl) Wsb ?_
  exact ⟨_, _, _, rfl, ms5a, ms5b, ms5c, rfl⟩
theorem DrawUsersOf_spec (w0 : World) (L : List Asn) (A : Option Addr) (c : Nat) (bs : List Int) (hR : Rd w0 [] byteE A c bs) (hb : ∀ x ∈ bs, 0 ≤ x ∧ x ≤ 255) (hl : bs.length ≤ 1048576) (hc : bs.length ≤ c) :
    Tr Try.prog 19 #[.slice A bs.length c] w0 L (fun v L' => ∃ (D : Option Addr) (e : Nat) (ms : List NdM) (n : Int), v = .tuple #[.agg #[.slice D ms.length e], .int .i64 n] ∧ 2 ≤ ms.length ∧ ms.length ≤ 10 ∧ (∀ m ∈ ms, m.parts.length ≤ 12) ∧ -1 ≤ n ∧ n ≤ 10 ∧ L' = row nodeE D e ms :: partsA ms :: L) := by
  have hC := Code0.take hR hb
  refine Tr.enter (args := [.slice A bs.length c]) Try.func19 Try.ntmps19 rfl rfl ?_
  refine GC.seq ?_
  refine GC.region ?_
  refine GL.alloc rfl ?_; intro g2
  refine GL.v Wag ?_
  refine GL.nil ?_
  refine GE.seq ?_
  refine GC.seq ?_
  refine GC.region ?_
  refine GL.v Wmv ?_
  refine GL.call rfl rfl (newReader_spec _ _ _ _ _ (by assumption) Wom Wom) ?_
  rintro _ _ ⟨g5, rfl, rfl⟩
  refine GL.callP rfl rfl Wpk (nodeOf_spec _ _ _ _ _ _ (by assumption) _ Wom Wom) ?_
  rintro _ _ ⟨D6, e6, ms6, n6, p6, rfl, ms6a, ms6b, ms6c, n6a, n6b, p6a, p6b, rfl⟩
  refine GL.v Wxt ?_
  refine GL.v Wxt ?_
  refine GL.store_varN rfl rfl rfl Wpk (by rfl) (by rfl) (by rfl) ?_
  refine GL.v Wag ?_
  refine GL.nil ?_
  refine GE.seq ?_
  refine GC.ret ?_
  -- returns, path 
  refine GE.res2 (L' := row nodeE D6 e6 ms6 :: partsA ms6 :: L) (.inl rfl) rfl (Res1.cell rfl rfl (BlkRd.of_pick Wpk) (by rfl)) (Res1.tmp rfl) Wsb ?_
  exact ⟨_, _, _, _, rfl, ms6a, ms6b, ms6c, n6a, n6b, rfl⟩
theorem DrawReachOf_spec (w0 : World) (L : List Asn) (A : Option Addr) (c : Nat) (bs : List Int) (hR : Rd w0 [] byteE A c bs) (hb : ∀ x ∈ bs, 0 ≤ x ∧ x ≤ 255) (hl : bs.length ≤ 1048576) (hc : bs.length ≤ c) :
    Tr Try.prog 29 #[.slice A bs.length c] w0 L (fun v L' => ∃ (D : Option Addr) (e : Nat) (ms : List NdM) (n : Int), v = .tuple #[.agg #[.slice D ms.length e], .int .i64 n] ∧ 2 ≤ ms.length ∧ ms.length ≤ 10 ∧ (∀ m ∈ ms, m.parts.length ≤ 12) ∧ -1 ≤ n ∧ n ≤ 10 ∧ L' = row nodeE D e ms :: partsA ms :: L) := by
  have hC := Code0.take hR hb
  refine Tr.enter (args := [.slice A bs.length c]) Try.func29 Try.ntmps29 rfl rfl ?_
  refine GC.seq ?_
  refine GC.region ?_
  refine GL.alloc rfl ?_; intro g2
  refine GL.v Wag ?_
  refine GL.nil ?_
  refine GE.seq ?_
  refine GC.seq ?_
  refine GC.region ?_
  refine GL.v Wmv ?_
  refine GL.call rfl rfl (newReader_spec _ _ _ _ _ (by assumption) Wom Wom) ?_
  rintro _ _ ⟨g5, rfl, rfl⟩
  refine GL.callP rfl rfl Wpk (nodeOf_spec _ _ _ _ _ _ (by assumption) _ Wom Wom) ?_
  rintro _ _ ⟨D6, e6, ms6, n6, p6, rfl, ms6a, ms6b, ms6c, n6a, n6b, p6a, p6b, rfl⟩
  refine GL.v Wxt ?_
  refine GL.v Wxt ?_
  refine GL.store_varN rfl rfl rfl Wpk (by rfl) (by rfl) (by rfl) ?_
  refine GL.v Wag ?_
  refine GL.nil ?_
  refine GE.seq ?_
  refine GC.ret ?_
  -- returns, path 
  refine GE.res2 (L' := row nodeE D6 e6 ms6 :: partsA ms6 :: L) (.inl rfl) rfl (Res1.cell rfl rfl (BlkRd.of_pick Wpk) (by rfl)) (Res1.tmp rfl) Wsb ?_
  exact ⟨_, _, _, _, rfl, ms6a, ms6b, ms6c, n6a, n6b, rfl⟩
theorem DrawNeedOf_spec (w0 : World) (L : List Asn) (A : Option Addr) (c : Nat) (bs : List Int) (hR : Rd w0 [] byteE A c bs) (hb : ∀ x ∈ bs, 0 ≤ x ∧ x ≤ 255) (hl : bs.length ≤ 1048576) (hc : bs.length ≤ c) :
    Tr Try.prog 25 #[.slice A bs.length c] w0 L (fun v L' => ∃ (D : Option Addr) (e : Nat) (ms : List NdM) (n : Int), v = .tuple #[.agg #[.slice D ms.length e], .int .i64 n] ∧ 2 ≤ ms.length ∧ ms.length ≤ 10 ∧ (∀ m ∈ ms, m.parts.length ≤ 12) ∧ -1 ≤ n ∧ n ≤ 10 ∧ L' = row nodeE D e ms :: partsA ms :: L) := by
  have hC := Code0.take hR hb
  refine Tr.enter (args := [.slice A bs.length c]) Try.func25 Try.ntmps25 rfl rfl ?_
  refine GC.seq ?_
  refine GC.region ?_
  refine GL.alloc rfl ?_; intro g2
  refine GL.v Wag ?_
  refine GL.nil ?_
  refine GE.seq ?_
  refine GC.seq ?_
  refine GC.region ?_
  refine GL.v Wmv ?_
  refine GL.call rfl rfl (newReader_spec _ _ _ _ _ (by assumption) Wom Wom) ?_
  rintro _ _ ⟨g5, rfl, rfl⟩
  refine GL.callP rfl rfl Wpk (nodeOf_spec _ _ _ _ _ _ (by assumption) _ Wom Wom) ?_
  rintro _ _ ⟨D6, e6, ms6, n6, p6, rfl, ms6a, ms6b, ms6c, n6a, n6b, p6a, p6b, rfl⟩
  refine GL.v Wxt ?_
  refine GL.v Wxt ?_
  refine GL.store_varN rfl rfl rfl Wpk (by rfl) (by rfl) (by rfl) ?_
  refine GL.v Wag ?_
  refine GL.nil ?_
  refine GE.seq ?_
  refine GC.ret ?_
  -- returns, path 
  refine GE.res2 (L' := row nodeE D6 e6 ms6 :: partsA ms6 :: L) (.inl rfl) rfl (Res1.cell rfl rfl (BlkRd.of_pick Wpk) (by rfl)) (Res1.tmp rfl) Wsb ?_
  exact ⟨_, _, _, _, rfl, ms6a, ms6b, ms6c, n6a, n6b, rfl⟩
theorem ljoin_spec (w0 : World) (L : List Asn) (A : Option Addr) (c : Nat) (xs : List Int) (hX : Rd w0 L intE A c xs) (B : Option Addr) (d : Nat) (ys : List Int) (hY : Rd w0 L intE B d ys) (hl : xs.length ≤ 1100000) (hl2 : ys.length ≤ 1100000) :
    Tr Try.prog 27 #[.slice A xs.length c, .slice B ys.length d] w0 L (fun v L' => ∃ D e, v = .slice D (xs ++ ys).length e ∧ L' = row intE D e (xs ++ ys) :: L) := by
  refine Tr.enter (args := [.slice A xs.length c, .slice B ys.length d]) Try.func27 Try.ntmps27 rfl rfl ?_
  refine GC.seq ?_
  refine GC.region ?_
  refine GL.v Wag ?_
  refine GL.nil ?_
  refine GE.seq ?_
  refine GC.seq ?_
  refine GC.region ?_
  refine GL.buildSlice rfl (by first | exact bsInt0 | exact bsInt1 _ | exact bsInt2 _ _ | exact bsInt3 _ _ _ | exact bsInt4 _ _ _ _ | exact bsInt5 _ _ _ _ _ | exact bsInt6 _ _ _ _ _ _ | exact bsInt7 _ _ _ _ _ _ _ | exact bsInt8 _ _ _ _ _ _ _ _ | exact bsInt9 _ _ _ _ _ _ _ _ _ | exact bsInt10 _ _ _ _ _ _ _ _ _ _ | exact bsPart0 | exact bsPart1 ⟨_, _, _, _, _⟩ | exact bsNode1 ⟨_, _, _, _⟩ | exact bsPtr3 _ _ _) rfl (by decide) rfl ?_; intro g5
  refine GL.v Wmv ?_
  first | (refine GL.append rfl rfl Wpk (by assumption) Wim (by first | rfl | (simp; done) | (simp; omega)) (by first | rfl | (simp; done) | (simp; omega)) (by first | omega | (simp; omega)) (by first | omega | (simp; omega)) rfl ?_; intro A7 c7) | (refine GL.append rfl rfl Wpk (Rd.of_pick Wpk) Imp.refl (by first | rfl | (simp; done) | (simp; omega)) (by first | rfl | (simp; done) | (simp; omega)) (by first | omega | (simp; omega)) (by first | omega | (simp; omega)) rfl ?_; intro A7 c7)
  refine GL.v Wmv ?_
  first | (refine GL.append rfl rfl Wpk (by assumption) Wim (by first | rfl | (simp; done) | (simp; omega)) (by first | rfl | (simp; done) | (simp; omega)) (by first | omega | (simp; omega)) (by first | omega | (simp; omega)) rfl ?_; intro A9 c9) | (refine GL.append rfl rfl Wpk (Rd.of_pick Wpk) Imp.refl (by first | rfl | (simp; done) | (simp; omega)) (by first | rfl | (simp; done) | (simp; omega)) (by first | omega | (simp; omega)) (by first | omega | (simp; omega)) rfl ?_; intro A9 c9)
  refine GL.v Wag ?_
  refine GL.nil ?_
  refine GE.seq ?_
  refine GC.ret ?_
  -- returns, path 
  refine GE.ret_tmp (L' := row intE A9 c9 (xs ++ ys) :: L) (.inl rfl) rfl rfl Wsb ?_
  exact ⟨_, _, rfl, rfl⟩
end SG
