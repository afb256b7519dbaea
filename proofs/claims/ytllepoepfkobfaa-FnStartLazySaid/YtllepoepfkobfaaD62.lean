/- Contracts: what the program says of the lazy start; drawn arguments. -/
import Derived.Test.YtllepoepfkobfaaD13
import Derived.Test.YtllepoepfkobfaaD24
import Derived.Test.YtllepoepfkobfaaD60
import Derived.Test.YtllepoepfkobfaaD61
namespace SG
open Go Go.RowKit Go.Proofs
set_option linter.unusedVariables false
set_option linter.unusedSimpArgs false
set_option maxRecDepth 100000
theorem DrawStartLazy_spec (w0 : World) (L : List Asn) (A : Option Addr) (c : Nat) (bs : List Int) (hR : Rd w0 [] byteE A c bs) (hb : ∀ x ∈ bs, 0 ≤ x ∧ x ≤ 255) (hl : bs.length ≤ 1048576) (hc : bs.length ≤ c) :
    Tr Try.prog 38 #[.slice A bs.length c] w0 L (fun v L' => ∃ (D : Option Addr) (e : Nat) (ms : List NdM) (B : Option Addr) (d : Nat) (xs : List Int), v = .tuple #[.agg #[.slice D ms.length e], .slice B xs.length d] ∧ 2 ≤ ms.length ∧ ms.length ≤ 10 ∧ (∀ m ∈ ms, m.parts.length ≤ 12) ∧ ms.length ≤ xs.length ∧ xs.length ≤ ms.length + 1 ∧ L' = row nodeE D e ms :: partsA ms :: row intE B d xs :: L) := by
  have hC := Code0.take hR hb
  refine Tr.enter (args := [.slice A bs.length c]) Try.func38 Try.ntmps38 rfl rfl ?_
  refine GC.seq ?_
  refine GC.region ?_
  refine GL.alloc rfl ?_; intro g2
  refine GL.v Wag ?_
  refine GL.nil ?_
  refine GE.seq ?_
  refine GC.seq ?_
  refine GC.region ?_
  refine GL.v Wmv ?_
  refine GL.call rfl rfl (newReader_spec _ _ _ _ _ (by assumption) Wom Wom) ?_
  rintro _ _ ⟨g5, rfl, rfl⟩
  refine GL.callP rfl rfl Wpk (graphOf_spec _ _ _ _ _ _ (by assumption) _ Wom Wom) ?_
  rintro _ _ ⟨D6, e6, ms6, B6, d6, xs6, p6, rfl, ms6a, ms6b, ms6c, xs6a, xs6b, p6a, p6b, rfl⟩
  refine GL.v Wxt ?_
  refine GL.v Wxt ?_
  refine GL.store_varN rfl rfl rfl Wpk (by rfl) (by rfl) (by rfl) ?_
  refine GL.v Wag ?_
  refine GL.nil ?_
  refine GE.seq ?_
  refine GC.ret ?_
  -- returns, path 
  refine GE.res2 (L' := row nodeE D6 e6 ms6 :: partsA ms6 :: row intE B6 d6 xs6 :: L) (.inl rfl) rfl (Res1.cell rfl rfl (BlkRd.of_pick Wpk) (by rfl)) (Res1.tmp rfl) Wsb ?_
  exact ⟨_, _, _, _, _, _, rfl, ms6a, ms6b, ms6c, xs6a, xs6b, rfl⟩
theorem inRange1_spec (w0 : World) (L : List Asn) (n : Int) : Tr Try.prog 103 #[.int .i64 n] w0 L (fun v L' => v = .bool (!inB n 0 999) ∧ L' = L) := by
  refine Tr.enter (args := [.int .i64 n]) Try.func103 Try.ntmps103 rfl rfl ?_
  refine GC.seq ?_
  refine GC.region ?_
  refine GL.v Wag ?_
  refine GL.nil ?_
  refine GE.seq ?_
  refine GC.seq ?_
  refine GC.region ?_
  refine GL.v Wmv ?_
  refine GL.callF rfl rfl (in_spec _ _ _ _ _) ?_
  refine GL.v Wnt ?_
  refine GL.v Wag ?_
  refine GL.nil ?_
  refine GE.seq ?_
  refine GC.ret ?_
  -- returns, path 
  refine GE.ret_tmp (L' := L) (.inl rfl) rfl rfl Wsb ?_
  exact ⟨rfl, rfl⟩
theorem lazyRange_spec (w0 : World) (L : List Asn) (B : Option Addr) (d : Nat) (xs : List Int) (hX : Rd w0 L intE B d xs) (hx : xs.length ≤ 1100000) (h : ∀ x ∈ xs, 0 ≤ x ∧ x ≤ 999) :
    Tr Try.prog 80 #[.slice B xs.length d] w0 L (fun v L' => v = .bool true ∧ L' = L) := by
  refine Tr.enter (args := [.slice B xs.length d]) Try.func80 Try.ntmps80 rfl rfl ?_
  refine GC.seq ?_
  refine GC.region ?_
  refine GL.v Wag ?_
  refine GL.nil ?_
  refine GE.seq ?_
  refine GC.seq ?_
  refine GC.region ?_
  refine GL.v Wmv ?_
  refine GL.callF rfl rfl (ContainsFunc_spec _ _ _ _ _ Wrd hx _ _ _ _ (fun L1 _ x _ => inRange1_spec _ _ _)) ?_
  refine GL.v Wnt ?_
  refine GL.v Wag ?_
  refine GL.nil ?_
  refine GE.seq ?_
  refine GC.ret ?_
  -- returns, path 
  refine GE.ret_tmp (L' := L) (.inl rfl) rfl rfl Wsb ?_
  exact ⟨by rw [any_not_in.2 h]; rfl, rfl⟩
theorem nodeValid_spec (w0 : World) (L : List Asn) (X : Option Addr) (x n : Nat) (R : Option Addr) (r : Nat) (ls : List LiM) (hH : RdLs w0 L R r ls) (S : Option Addr) (s : Nat) (A : Option Addr) (c : Nat) (ms : List NdM) (hG : RdG w0 L A c ms) (hT : Rd w0 L intE S s (startS (gr ms))) (hV : ValidG (gr ms)) (hl : ls.length = ms.length) (hn : ∀ i (h : i < ls.length), ls[i].xs.length = 0) (i : Nat) (hi : i < ms.length) :
    Tr Try.prog 81 #[.agg #[.slice X n x, .slice R ls.length r, .slice S (startS (gr ms)).length s], .agg #[.slice A ms.length c], .int .i64 i] w0 L (fun v L' => v = .bool true ∧ L' = L) := by
  have hl10 : ms.length ≤ 10 := by have := hV.1; simpa using this
  have hH1 := hH.nodes
  have hP := hG.parts i hi
  have hN := hG.nodes
  have hig : i < (gr ms).length := by simpa using hi
  have hil : i < ls.length := by omega
  have hz := hn i hil
  have hH2 := hH.lists i hil
  have hst := startS_at hig
  have hki : kindAt (gr ms) i = ms[i].kind := by rw [kindAt_gr (k := i) (by omega)]; rfl
  refine Tr.enter (args := [.agg #[.slice X n x, .slice R ls.length r, .slice S (startS (gr ms)).length s], .agg #[.slice A ms.length c], .int .i64 i]) Try.func81 Try.ntmps81 rfl rfl ?_
  refine GC.seq ?_
  refine GC.region ?_
  refine GL.box_agg rfl rfl ?_; intro g3
  refine GL.box_agg rfl rfl ?_; intro g4
  refine GL.v Wag ?_
  refine GL.nil ?_
  refine GE.seq ?_
  refine GC.seq ?_
  refine GC.region ?_
  refine GL.v Wfa ?_
  refine GL.v Wlb ?_
  refine GL.v Wmv ?_
  refine GL.v Wix ?_
  refine GL.v Wle ?_
  refine GL.v Wag ?_
  refine GL.nil ?_
  refine GE.seq ?_
  refine GC.seq ?_
  refine GC.block ?_
  refine GC.seq ?_
  refine GC.region ?_
  refine GL.v Wlba ?_
  refine GL.v Wmv ?_
  refine GL.callF rfl rfl (cell_spec _ _ _ _ _ (by first | assumption | exact RdG.imp (by assumption) Wim | exact RdG.of_pick Wpk Wpk) _ (by first | omega | exact SizeG.le (by assumption))) ?_
  refine GL.v Wag ?_
  refine GL.nil ?_
  refine GE.seq ?_
  refine GC.ifs (fun h1 => ?_) (fun h1 => ?_)
  · -- T
    have hk0 := (cellB_iff.1 h1).2
    have hs0 := stS_cell hk0
    refine GC.seq ?_
    refine GC.region ?_
    refine GL.v Wfa ?_
    refine GL.v Wlb ?_
    refine GL.v Wmv ?_
    refine GL.v Wix ?_
    refine GL.v Wle ?_
    refine GL.v Weq ?_
    refine GL.v Wmv ?_
    refine GL.gs (fun h2 => ?_) (fun h2 => ?_)
    · -- Tt
      refine GL.want rfl rfl ?_
      refine GL.v Wmv ?_
      refine GL.want rfl rfl ?_
      refine GL.v Wln ?_
      refine GL.want rfl rfl ?_
      refine GL.v Weq ?_
      refine GL.v Wpt ?_
      refine GL.v Wag ?_
      refine GL.nil ?_
      refine GE.seq ?_
      refine GC.ret ?_
      refine GE.block_ret ?_
      refine GE.seq_ret ?_
      -- returns, path Tt
      refine GE.ret_tmp (L' := L) (.inl rfl) rfl rfl Wsb ?_
      exact ⟨by rw [decide_eq_true (by rw [hz]; rfl)], rfl⟩
    · -- Tf
      exact absurd (by rw [at0_eq, hst]; exact hs0) h2
  · -- F
    have hk0 : kindAt (gr ms) i ≠ 0 := fun h => by rw [cellB_iff.2 ⟨⟨by omega, by simpa using hi⟩, h⟩] at h1; cases h1
    have hs2 := stS_der hk0
    have hg := goodNd_der hV hig (by rw [gr_get]; rw [hki] at hk0; exact hk0)
    rw [gr_get] at hg
    have hp12 : ms[i].parts.length ≤ 12 := hg.2.1.2.1
    have hft : ReadsFit ms[i].parts := hg.2.1.fit
    have hml := mayL_length ms[i].parts
    refine GC.seq ?_
    refine GC.region ?_
    refine GL.v Wfa ?_
    refine GL.v Wlb ?_
    refine GL.v Wmv ?_
    refine GL.v Wix ?_
    refine GL.v Wle ?_
    refine GL.v Weq ?_
    refine GL.v Wag ?_
    refine GL.nil ?_
    refine GE.seq ?_
    refine GC.ifs (fun h2 => ?_) (fun h2 => ?_)
    · -- FT
      refine GC.seq ?_
      refine GC.region ?_
      refine GL.v Wfa ?_
      refine GL.v Wlb ?_
      refine GL.v Wmv ?_
      refine GL.v Wix ?_
      refine GL.v Wfa ?_
      refine GL.v Wlef1 ?_
      refine GL.call rfl rfl (mayRead_spec _ _ _ _ _ Wrd Wom (by assumption)) ?_
      rintro _ _ ⟨B44, rfl, rfl⟩
      refine GL.v Wag ?_
      refine GL.nil ?_
      refine GE.seq ?_
      refine GC.seq ?_
      refine GC.seq ?_
      refine GC.region ?_
      refine GL.v Wmv ?_
      refine GL.v Wln ?_
      refine GL.v Wmv ?_
      refine GL.nil ?_
      refine GE.seq ?_
      refine GC.block ?_
      -- loop 1: carried slots [47]
      refine GC.loopK (α := Nat) (fun k => k ≤ 0) (fun k => [(47, .int .i64 k)]) [(7, _), (8, _), (45, _), (46, _)] (fun k => row intE B44 (mayL ms[i].parts).length (mayL ms[i].parts) :: blk g4 25 [.slice A ms.length c] :: blk g3 62 [.slice X n x, .slice R ls.length r, .slice S (startS (gr ms)).length s] :: L) (fun k => 0 - k) 0 Wkp Wsb (Nat.zero_le _) ?_
      rintro k hk
      refine GC.seq ?_
      refine GC.region ?_
      refine GL.v Wls ?_
      refine GL.nil ?_
      refine GE.seq ?_
      refine GC.seq ?_
      refine GC.ifs (fun h3 => ?_) (fun h3 => ?_)
      · -- FTT
        omega
      · -- FTF
        refine GC.exit ?_
        refine GE.seq_exit ?_
        refine GE.loop_exit ?_
        refine GE.block_exit ?_
        refine GE.seq ?_
        refine GC.seq ?_
        refine GC.region ?_
        refine GL.v Wag ?_
        refine GL.nil ?_
        refine GE.seq ?_
        refine GC.ret ?_
        refine GE.block_ret ?_
        refine GE.seq_ret ?_
        -- returns, path FTF
        refine GE.ret_tmp (L' := L) (.inl rfl) rfl rfl Wsb ?_
        exact ⟨rfl, rfl⟩
    · -- FF
      exact absurd (by rw [at0_eq, hst]; exact hs2) h2
theorem ValidLazy_spec (w0 : World) (L : List Asn) (X : Option Addr) (x : Nat) (xs : List Int) (hX : Rd w0 L intE X x xs) (R : Option Addr) (r : Nat) (ls : List LiM) (hH : RdLs w0 L R r ls) (S : Option Addr) (s : Nat) (A : Option Addr) (c : Nat) (ms : List NdM) (hG : RdG w0 L A c ms) (hT : Rd w0 L intE S s (startS (gr ms))) (hC : cellsV (gr ms) xs = true) (hli : li ls = List.replicate ms.length []) :
    Tr Try.prog 44 #[.agg #[.slice A ms.length c], .agg #[.slice X xs.length x, .slice R ls.length r, .slice S (startS (gr ms)).length s]] w0 L (fun v L' => v = .bool true ∧ L' = L) := by
  have hV := (cellsV_iff.1 hC).1
  have hl10 : ms.length ≤ 10 := by have := hV.1; simpa using this
  have hxl := (cellsV_len hC).1
  rw [gr_length] at hxl
  have hll : ls.length = ms.length := by have := congrArg List.length hli; simpa using this
  have hsl := startS_length (gr ms)
  rw [gr_length] at hsl
  have hN := hG.nodes
  have hH1 := hH.nodes
  have hvg := validG_iff.2 hV
  have hn : ∀ i (h : i < ls.length), ls[i].xs.length = 0 := fun i h => by
    have h1 : (li ls)[i]'(by simpa using h) = ls[i].xs := li_get _
    have h2 : (li ls)[i]'(by simpa using h) = [] := by simp only [hli, List.getElem_replicate]
    rw [← h1, h2]; rfl
  have hin : ∀ y ∈ xs, 0 ≤ y ∧ y ≤ 999 := fun y hy => by
    obtain ⟨j, hj, rfl⟩ := List.mem_iff_getElem.1 hy
    have := ((cellsV_at.1 hC).2.2 j (by rw [gr_length]; omega)).1
    rwa [← at0_eq hj] at this
  refine Tr.enter (args := [.agg #[.slice A ms.length c], .agg #[.slice X xs.length x, .slice R ls.length r, .slice S (startS (gr ms)).length s]]) Try.func44 Try.ntmps44 rfl rfl ?_
  refine GC.seq ?_
  refine GC.region ?_
  refine GL.box_agg rfl rfl ?_; intro g2
  refine GL.box_agg rfl rfl ?_; intro g3
  refine GL.v Wag ?_
  refine GL.nil ?_
  refine GE.seq ?_
  refine GC.seq ?_
  refine GC.region ?_
  refine GL.v Wlba ?_
  refine GL.callF rfl rfl (size_spec _ _ _ _ _) ?_
  refine GL.v Wag ?_
  refine GL.nil ?_
  refine GE.seq ?_
  refine GC.seq ?_
  refine GC.seq ?_
  refine GC.region ?_
  refine GL.v Wlba ?_
  refine GL.callF rfl rfl (iValidGraph_spec _ _ _ _ _ (by first | assumption | exact RdG.imp (by assumption) Wim | exact RdG.of_pick Wpk Wpk) (by first | omega | exact SizeG.le (by assumption))) ?_
  refine GL.v Wnt ?_
  refine GL.v Wmv ?_
  refine GL.gs (fun h1 => ?_) (fun h1 => ?_)
  · -- t
    rw [hvg] at h1; cases h1
  · -- f
    refine GL.want rfl rfl ?_
    refine GL.v Wfa ?_
    refine GL.want rfl rfl ?_
    refine GL.v Wlb ?_
    refine GL.want rfl rfl ?_
    refine GL.v Wln ?_
    refine GL.want rfl rfl ?_
    refine GL.v Wmv ?_
    refine GL.want rfl rfl ?_
    refine GL.v Wnq ?_
    refine GL.v Wpf ?_
    refine GL.v Wmv ?_
    refine GL.gs (fun h2 => ?_) (fun h2 => ?_)
    · -- ft
      omega
    · -- ff
      refine GL.want rfl rfl ?_
      refine GL.v Wfa ?_
      refine GL.want rfl rfl ?_
      refine GL.v Wlb ?_
      refine GL.want rfl rfl ?_
      refine GL.v Wln ?_
      refine GL.want rfl rfl ?_
      refine GL.v Wmv ?_
      refine GL.want rfl rfl ?_
      refine GL.v Wnq ?_
      refine GL.v Wpf ?_
      refine GL.v Wmv ?_
      refine GL.gs (fun h3 => ?_) (fun h3 => ?_)
      · -- fft
        omega
      · -- fff
        refine GL.want rfl rfl ?_
        refine GL.v Wfa ?_
        refine GL.want rfl rfl ?_
        refine GL.v Wlb ?_
        refine GL.want rfl rfl ?_
        refine GL.v Wln ?_
        refine GL.want rfl rfl ?_
        refine GL.v Wmv ?_
        refine GL.want rfl rfl ?_
        refine GL.v Wnq ?_
        refine GL.v Wpf ?_
        refine GL.v Wmv ?_
        refine GL.gs (fun h4 => ?_) (fun h4 => ?_)
        · -- ffft
          omega
        · -- ffff
          refine GL.want rfl rfl ?_
          refine GL.v Wfa ?_
          refine GL.want rfl rfl ?_
          refine GL.v Wlb ?_
          refine GL.want rfl rfl ?_
          refine GL.callF rfl rfl (lazyRange_spec _ _ _ _ _ (hX.imp Wim) (by omega) hin) ?_
          refine GL.want rfl rfl ?_
          refine GL.v Wnt ?_
          refine GL.v Wpf ?_
          refine GL.nil ?_
          refine GE.seq ?_
          refine GC.ifs (fun h5 => ?_) (fun h5 => ?_)
          · -- ffffT
            cases h5
          · -- ffffF
            refine GC.skip ?_
            refine GE.seq ?_
            refine GC.seq ?_
            refine GC.seq ?_
            refine GC.region ?_
            refine GL.v Wfa ?_
            refine GL.v Wlb ?_
            refine GL.v Wln ?_
            refine GL.v Wmv ?_
            refine GL.nil ?_
            refine GE.seq ?_
            refine GC.block ?_
            -- loop 1: carried slots [42]
            refine GC.loopK (α := Nat) (fun i => i ≤ ms.length) (fun i => [(42, .int .i64 i)]) [(2, _), (3, _), (41, _)] (fun i => blk g2 25 [.slice A ms.length c] :: blk g3 62 [.slice X xs.length x, .slice R ls.length r, .slice S (startS (gr ms)).length s] :: L) (fun i => ms.length - i) 0 Wkp Wsb (Nat.zero_le _) ?_
            rintro i hi
            refine GC.seq ?_
            refine GC.region ?_
            refine GL.v Wls ?_
            refine GL.nil ?_
            refine GE.seq ?_
            refine GC.seq ?_
            refine GC.ifs (fun h6 => ?_) (fun h6 => ?_)
            · -- ffffFT
              have hil : i < ms.length := by omega
              refine GC.skip ?_
              refine GE.seq ?_
              refine GC.seq ?_
              refine GC.block ?_
              refine GC.seq ?_
              refine GC.region ?_
              refine GL.v Wmv ?_
              refine GL.v Wag ?_
              refine GL.nil ?_
              refine GE.seq ?_
              refine GC.seq ?_
              refine GC.region ?_
              refine GL.v Wlba ?_
              refine GL.v Wlba ?_
              refine GL.v Wmv ?_
              refine GL.callF rfl rfl (nodeValid_spec _ _ _ _ _ _ _ ls (hH.imp Wim) _ _ _ _ ms (by first | assumption | exact RdG.imp (by assumption) Wim | exact RdG.of_pick Wpk Wpk) (hT.imp Wim) hV hll hn i hil) ?_
              refine GL.v Wnt ?_
              refine GL.nil ?_
              refine GE.seq ?_
              refine GC.ifs (fun h7 => ?_) (fun h7 => ?_)
              · -- ffffFTT
                cases h7
              · -- ffffFTF
                refine GC.skip ?_
                refine GE.block ?_
                refine GE.seq ?_
                refine GC.region ?_
                refine GL.v Wad ?_
                refine GL.v Wmv ?_
                refine GL.nil ?_
                -- round of loop 1, path ffffFTF
                refine GE.round (i + 1) (by omega) (by omega) Wkp Wsb
            · -- ffffFF
              refine GC.exit ?_
              refine GE.seq_exit ?_
              refine GE.loop_exit ?_
              refine GE.block_exit ?_
              refine GE.seq ?_
              refine GC.seq ?_
              refine GC.region ?_
              refine GL.v Wag ?_
              refine GL.nil ?_
              refine GE.seq ?_
              refine GC.ret ?_
              -- returns, path ffffFF
              refine GE.ret_tmp (L' := L) (.inl rfl) rfl rfl Wsb ?_
              exact ⟨rfl, rfl⟩
theorem startS_get {gs : List Nd} {i : Nat} (h : i < (startS gs).length) : (startS gs)[i] = stS gs i := by simp [startS]
theorem StaleOf1_spec (w0 : World) (L : List Asn) (g : Nat) (X : Option Addr) (n x : Nat) (R : Option Addr) (m r : Nat) (S : Option Addr) (s : Nat) (st : List Int) (hb : BlkRd w0 L g 62 [.slice X n x, .slice R m r, .slice S st.length s]) (hT : Rd w0 L intE S s st) (i : Nat) (hi : i < st.length) :
    Tr Try.prog 79 #[.int .i64 i, .pointer (some ⟨g, 0, none⟩)] w0 L (fun v L' => v = .bool (decide (st[i] ≠ 0)) ∧ L' = L) := by
  refine Tr.enter (args := [.int .i64 i, .pointer (some ⟨g, 0, none⟩)]) Try.func79 Try.ntmps79 rfl rfl ?_
  refine GC.seq ?_
  refine GC.region ?_
  refine GL.v Wag ?_
  refine GL.nil ?_
  refine GE.seq ?_
  refine GC.seq ?_
  refine GC.region ?_
  refine GL.v Wfa ?_
  refine GL.v Wlb ?_
  refine GL.v Wmv ?_
  refine GL.v Wix ?_
  refine GL.v Wle ?_
  refine GL.v Wnq ?_
  refine GL.v Wag ?_
  refine GL.nil ?_
  refine GE.seq ?_
  refine GC.ret ?_
  -- returns, path 
  refine GE.ret_tmp (L' := L) (.inl rfl) rfl rfl Wsb ?_
  exact ⟨by simp, rfl⟩
theorem StaleOf_spec (w0 : World) (L : List Asn) (X : Option Addr) (x : Nat) (xs : List Int) (hX : Rd w0 L intE X x xs) (R : Option Addr) (r : Nat) (ls : List LiM) (hH : RdLs w0 L R r ls) (S : Option Addr) (s : Nat) (A : Option Addr) (c : Nat) (ms : List NdM) (hG : RdG w0 L A c ms) (hT : Rd w0 L intE S s (startS (gr ms))) (hC : cellsV (gr ms) xs = true) (hli : li ls = List.replicate ms.length []) :
    Tr Try.prog 42 #[.agg #[.slice A ms.length c], .agg #[.slice X xs.length x, .slice R ls.length r, .slice S (startS (gr ms)).length s]] w0 L (fun v L' => ∃ F, v = .slice F (whichL ms.length fun i => decide (stS (gr ms) i ≠ 0)).length (whichL ms.length fun i => decide (stS (gr ms) i ≠ 0)).length ∧ L' = row intE F (whichL ms.length fun i => decide (stS (gr ms) i ≠ 0)).length (whichL ms.length fun i => decide (stS (gr ms) i ≠ 0)) :: L) := by
  have hl10 : ms.length ≤ 10 := by have := (cellsV_len hC).2; simpa using this
  refine Tr.enter (args := [.agg #[.slice A ms.length c], .agg #[.slice X xs.length x, .slice R ls.length r, .slice S (startS (gr ms)).length s]]) Try.func42 Try.ntmps42 rfl rfl ?_
  refine GC.seq ?_
  refine GC.region ?_
  refine GL.box_agg rfl rfl ?_; intro g2
  refine GL.box_agg rfl rfl ?_; intro g3
  refine GL.v Wag ?_
  refine GL.nil ?_
  refine GE.seq ?_
  refine GC.seq ?_
  refine GC.seq ?_
  refine GC.region ?_
  refine GL.v Wlba ?_
  refine GL.v Wlba ?_
  refine GL.callF rfl rfl (ValidLazy_spec _ _ _ _ xs (hX.imp Wim) _ _ ls (hH.imp Wim) _ _ _ _ ms (by first | assumption | exact RdG.imp (by assumption) Wim | exact RdG.of_pick Wpk Wpk) (hT.imp Wim) hC hli) ?_
  refine GL.v Wnt ?_
  refine GL.nil ?_
  refine GE.seq ?_
  refine GC.ifs (fun h1 => ?_) (fun h1 => ?_)
  · -- T
    cases h1
  · -- F
    refine GC.skip ?_
    refine GE.seq ?_
    refine GC.seq ?_
    refine GC.region ?_
    refine GL.v Wlba ?_
    refine GL.v (by exact EvP.r (Ev.makeFunc rfl rfl)) ?_
    refine GL.call rfl rfl (which_spec w0 _ A ms.length c (by omega) 79 #[] #[.pointer (some ⟨g3, 0, none⟩)] (fun i => decide (stS (gr ms) i ≠ 0)) (fun Y hY i hi => by have := StaleOf1_spec w0 Y g3 X xs.length x R ls.length r S s (startS (gr ms)) ((BlkRd.of_pick Wpk).imp hY) ((hT.imp Wim).imp hY) i (by simpa using hi); rw [startS_get] at this; exact this)) ?_
    rintro _ _ ⟨F, rfl, rfl⟩
    refine GL.v Wag ?_
    refine GL.nil ?_
    refine GE.seq ?_
    refine GC.ret ?_
    -- returns, path F
    refine GE.ret_tmp (L' := row intE F (whichL ms.length fun i => decide (stS (gr ms) i ≠ 0)).length (whichL ms.length fun i => decide (stS (gr ms) i ≠ 0)) :: L) (.inl rfl) rfl rfl Wsb ?_
    exact ⟨F, rfl, rfl⟩
theorem cellsOf_spec (w0 : World) (L : List Asn) (B : Option Addr) (d : Nat) (xs : List Int) (hX : Rd w0 L intE B d xs) (A : Option Addr) (c : Nat) (ms : List NdM) (hG : RdG w0 L A c ms) (hC : cellsV (gr ms) xs = true) :
    Tr Try.prog 82 #[.agg #[.slice A ms.length c], .slice B xs.length d] w0 L (fun v L' => ∃ F, v = .slice F xs.length xs.length ∧ L' = row intE F xs.length xs :: L) := by
  have hl10 : ms.length ≤ 10 := by have := (cellsV_len hC).2; simpa using this
  have hxl := (cellsV_len hC).1
  rw [gr_length] at hxl
  refine Tr.enter (args := [.agg #[.slice A ms.length c], .slice B xs.length d]) Try.func82 Try.ntmps82 rfl rfl ?_
  refine GC.seq ?_
  refine GC.region ?_
  refine GL.box_agg rfl rfl ?_; intro g2
  refine GL.v Wag ?_
  refine GL.nil ?_
  refine GE.seq ?_
  refine GC.seq ?_
  refine GC.region ?_
  refine GL.v Wmv ?_
  refine GL.call rfl rfl (cloneInt_spec _ _ _ _ _ Wrd Wom) ?_
  rintro _ _ ⟨B8, rfl, rfl⟩
  refine GL.v Wag ?_
  refine GL.nil ?_
  refine GE.seq ?_
  refine GC.seq ?_
  refine GC.seq ?_
  refine GC.region ?_
  refine GL.v Wmv ?_
  refine GL.v Wln ?_
  refine GL.v Wmv ?_
  refine GL.nil ?_
  refine GE.seq ?_
  refine GC.block ?_
  -- loop 1: carried slots [11]
  refine GC.loopK (α := Nat) (fun i => i ≤ xs.length) (fun i => [(11, .int .i64 i)]) [(2, _), (5, _), (10, _)] (fun i => row intE B8 xs.length xs :: blk g2 25 [.slice A ms.length c] :: L) (fun i => xs.length - i) 0 Wkp Wsb (Nat.zero_le _) ?_
  rintro i hi
  refine GC.seq ?_
  refine GC.region ?_
  refine GL.v Wls ?_
  refine GL.nil ?_
  refine GE.seq ?_
  refine GC.seq ?_
  refine GC.ifs (fun h1 => ?_) (fun h1 => ?_)
  · -- T
    have hil : i < xs.length := by omega
    refine GC.skip ?_
    refine GE.seq ?_
    refine GC.seq ?_
    refine GC.block ?_
    refine GC.seq ?_
    refine GC.region ?_
    refine GL.v Wmv ?_
    refine GL.v Wag ?_
    refine GL.nil ?_
    refine GE.seq ?_
    refine GC.seq ?_
    refine GC.region ?_
    refine GL.v Wlba ?_
    refine GL.v Wmv ?_
    refine GL.callF rfl rfl (cell_spec _ _ _ _ _ (by first | assumption | exact RdG.imp (by assumption) Wim | exact RdG.of_pick Wpk Wpk) _ (by first | omega | exact SizeG.le (by assumption))) ?_
    refine GL.v Wnt ?_
    refine GL.nil ?_
    refine GE.seq ?_
    refine GC.ifs (fun h2 => ?_) (fun h2 => ?_)
    · -- TT
      refine GC.region ?_
      refine GL.v Wmv ?_
      refine GL.v Wmv ?_
      refine GL.v Wix ?_
      refine GL.store_el rfl rfl Wpk rfl rfl rfl (by first | omega | (simp; done) | (simp; omega)) ?_
      refine GL.nil ?_
      refine GE.block ?_
      refine GE.seq ?_
      refine GC.region ?_
      refine GL.v Wad ?_
      refine GL.v Wmv ?_
      refine GL.nil ?_
      -- round of loop 1, path TT
      have hz : xs.set i 0 = xs := by
        have h4 := ((cellsV_at.1 hC).2.2 i (by rw [gr_length]; omega)).2 (fun h => by rw [cellB_iff.2 ⟨⟨by omega, by rw [gr_length]; omega⟩, h⟩] at h2; cases h2)
        rw [← at0_eq hil] at h4
        rw [← h4]
        exact List.set_getElem_self hil
      rw [hz]
      refine GE.round (i + 1) (by omega) (by omega) Wkp Wsb
    · -- TF
      refine GC.skip ?_
      refine GE.block ?_
      refine GE.seq ?_
      refine GC.region ?_
      refine GL.v Wad ?_
      refine GL.v Wmv ?_
      refine GL.nil ?_
      -- round of loop 1, path TF
      refine GE.round (i + 1) (by omega) (by omega) Wkp Wsb
  · -- F
    refine GC.exit ?_
    refine GE.seq_exit ?_
    refine GE.loop_exit ?_
    refine GE.block_exit ?_
    refine GE.seq ?_
    refine GC.seq ?_
    refine GC.region ?_
    refine GL.v Wmv ?_
    refine GL.v Wag ?_
    refine GL.nil ?_
    refine GE.seq ?_
    refine GC.ret ?_
    -- returns, path F
    refine GE.ret_tmp (L' := row intE B8 xs.length xs :: L) (.inl rfl) rfl rfl Wsb ?_
    exact ⟨B8, rfl, rfl⟩
theorem LazyCells_spec (w0 : World) (L : List Asn) (X : Option Addr) (x : Nat) (xs : List Int) (hX : Rd w0 L intE X x xs) (R : Option Addr) (r : Nat) (ls : List LiM) (hH : RdLs w0 L R r ls) (S : Option Addr) (s : Nat) (A : Option Addr) (c : Nat) (ms : List NdM) (hG : RdG w0 L A c ms) (hT : Rd w0 L intE S s (startS (gr ms))) (hC : cellsV (gr ms) xs = true) (hli : li ls = List.replicate ms.length []) :
    Tr Try.prog 45 #[.agg #[.slice A ms.length c], .agg #[.slice X xs.length x, .slice R ls.length r, .slice S (startS (gr ms)).length s]] w0 L (fun v L' => ∃ F, v = .slice F xs.length xs.length ∧ L' = row intE F xs.length xs :: L) := by
  refine Tr.enter (args := [.agg #[.slice A ms.length c], .agg #[.slice X xs.length x, .slice R ls.length r, .slice S (startS (gr ms)).length s]]) Try.func45 Try.ntmps45 rfl rfl ?_
  refine GC.seq ?_
  refine GC.region ?_
  refine GL.box_agg rfl rfl ?_; intro g2
  refine GL.box_agg rfl rfl ?_; intro g3
  refine GL.v Wag ?_
  refine GL.nil ?_
  refine GE.seq ?_
  refine GC.seq ?_
  refine GC.seq ?_
  refine GC.region ?_
  refine GL.v Wlba ?_
  refine GL.v Wlba ?_
  refine GL.callF rfl rfl (ValidLazy_spec _ _ _ _ xs (hX.imp Wim) _ _ ls (hH.imp Wim) _ _ _ _ ms (by first | assumption | exact RdG.imp (by assumption) Wim | exact RdG.of_pick Wpk Wpk) (hT.imp Wim) hC hli) ?_
  refine GL.v Wnt ?_
  refine GL.nil ?_
  refine GE.seq ?_
  refine GC.ifs (fun h1 => ?_) (fun h1 => ?_)
  · -- T
    cases h1
  · -- F
    refine GC.skip ?_
    refine GE.seq ?_
    refine GC.seq ?_
    refine GC.region ?_
    refine GL.v Wlba ?_
    refine GL.v Wfa ?_
    refine GL.v Wlb ?_
    refine GL.call rfl rfl (cellsOf_spec w0 _ X x xs (hX.imp Wim) A c ms (by first | assumption | exact RdG.imp (by assumption) Wim | exact RdG.of_pick Wpk Wpk) hC) ?_
    rintro _ _ ⟨F, rfl, rfl⟩
    refine GL.v Wag ?_
    refine GL.nil ?_
    refine GE.seq ?_
    refine GC.ret ?_
    -- returns, path F
    refine GE.ret_tmp (L' := row intE F xs.length xs :: L) (.inl rfl) rfl rfl Wsb ?_
    exact ⟨F, rfl, rfl⟩
end SG
