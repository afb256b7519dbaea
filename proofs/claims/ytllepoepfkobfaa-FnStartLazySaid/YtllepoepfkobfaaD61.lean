/- Contracts: the laws' looks at states of the lazy machine. -/
import Derived.Test.YtllepoepfkobfaaD9
import Derived.Test.YtllepoepfkobfaaD19
import Derived.Test.YtllepoepfkobfaaD27
import Derived.Test.YtllepoepfkobfaaPlain18
namespace SG
open Go Go.RowKit Go.Proofs
set_option linter.unusedVariables false
set_option linter.unusedSimpArgs false
set_option maxRecDepth 100000
theorem equalLazy_spec (w0 : World) (L : List Asn) (X : Option Addr) (x : Nat) (xs : List Int) (hX : Rd w0 L intE X x xs) (R : Option Addr) (r : Nat) (ls : List LiM) (hH : RdLs w0 L R r ls) (S : Option Addr) (s : Nat) (st : List Int) (hT : Rd w0 L intE S s st)
    (Y : Option Addr) (y : Nat) (ys : List Int) (hY : Rd w0 L intE Y y ys) (Q : Option Addr) (q : Nat) (ms : List LiM) (hM : RdLs w0 L Q q ms) (U : Option Addr) (u : Nat) (tt : List Int) (hU : Rd w0 L intE U u tt) (hx : xs.length ≤ 1100000) (hZ : SizeLs ls) (hs : st.length ≤ 1100000) :
    Tr Try.prog 40 #[.agg #[.slice X xs.length x, .slice R ls.length r, .slice S st.length s], .agg #[.slice Y ys.length y, .slice Q ms.length q, .slice U tt.length u]] w0 L (fun v L' => v = .bool (decide (xs = ys ∧ li ls = li ms ∧ st = tt)) ∧ L' = L) := by
  refine Tr.enter (args := [.agg #[.slice X xs.length x, .slice R ls.length r, .slice S st.length s], .agg #[.slice Y ys.length y, .slice Q ms.length q, .slice U tt.length u]]) Try.func40 Try.ntmps40 rfl rfl ?_
  refine GC.seq ?_
  refine GC.region ?_
  refine GL.box_agg rfl rfl ?_; intro g2
  refine GL.box_agg rfl rfl ?_; intro g3
  refine GL.v Wag ?_
  refine GL.nil ?_
  refine GE.seq ?_
  refine GC.seq ?_
  refine GC.region ?_
  refine GL.v Wfa ?_
  refine GL.v Wlb ?_
  refine GL.v Wfa ?_
  refine GL.v Wlb ?_
  refine GL.callF rfl rfl (equalInts_spec _ _ _ _ _ (hX.imp Wim) _ _ _ (hY.imp Wim) hx) ?_
  refine GL.v Wmv ?_
  refine GL.gs (fun h1 => ?_) (fun h1 => ?_)
  · -- t
    refine GL.want rfl rfl ?_
    refine GL.v Wfa ?_
    refine GL.want rfl rfl ?_
    refine GL.v Wlb ?_
    refine GL.want rfl rfl ?_
    refine GL.v Wfa ?_
    refine GL.want rfl rfl ?_
    refine GL.v Wlb ?_
    refine GL.want rfl rfl ?_
    refine GL.callF rfl rfl (equalLists_spec _ _ _ _ _ (hH.imp Wim) _ _ _ (hM.imp Wim) hZ) ?_
    refine GL.v Wpt ?_
    refine GL.v Wmv ?_
    refine GL.gs (fun h2 => ?_) (fun h2 => ?_)
    · -- tt
      refine GL.want rfl rfl ?_
      refine GL.v Wfa ?_
      refine GL.want rfl rfl ?_
      refine GL.v Wlb ?_
      refine GL.want rfl rfl ?_
      refine GL.v Wfa ?_
      refine GL.want rfl rfl ?_
      refine GL.v Wlb ?_
      refine GL.want rfl rfl ?_
      refine GL.callF rfl rfl (equalInts_spec _ _ _ _ _ (hT.imp Wim) _ _ _ (hU.imp Wim) hs) ?_
      refine GL.v Wpt ?_
      refine GL.v Wag ?_
      refine GL.nil ?_
      refine GE.seq ?_
      refine GC.ret ?_
      -- returns, path tt
      refine GE.ret_tmp (L' := L) (.inl rfl) rfl rfl Wsb ?_
      exact ⟨by simp [h1, h2], rfl⟩
    · -- tf
      refine GL.unwant rfl rfl rfl rfl ?_
      refine GL.unwant rfl rfl rfl rfl ?_
      refine GL.unwant rfl rfl rfl rfl ?_
      refine GL.unwant rfl rfl rfl rfl ?_
      refine GL.unwant rfl rfl rfl rfl ?_
      refine GL.v Wpf ?_
      refine GL.v Wag ?_
      refine GL.nil ?_
      refine GE.seq ?_
      refine GC.ret ?_
      -- returns, path tf
      refine GE.ret_tmp (L' := L) (.inl rfl) rfl rfl Wsb ?_
      exact ⟨by simp [h1, h2], rfl⟩
  · -- f
    refine GL.unwant rfl rfl rfl rfl ?_
    refine GL.unwant rfl rfl rfl rfl ?_
    refine GL.unwant rfl rfl rfl rfl ?_
    refine GL.unwant rfl rfl rfl rfl ?_
    refine GL.unwant rfl rfl rfl rfl ?_
    refine GL.v Wpf ?_
    refine GL.v Wmv ?_
    refine GL.unwant rfl rfl rfl rfl ?_
    refine GL.unwant rfl rfl rfl rfl ?_
    refine GL.unwant rfl rfl rfl rfl ?_
    refine GL.unwant rfl rfl rfl rfl ?_
    refine GL.unwant rfl rfl rfl rfl ?_
    refine GL.v Wpf ?_
    refine GL.v Wag ?_
    refine GL.nil ?_
    refine GE.seq ?_
    refine GC.ret ?_
    -- returns, path f
    refine GE.ret_tmp (L' := L) (.inl rfl) rfl rfl Wsb ?_
    exact ⟨by simp [h1], rfl⟩
theorem eqLazy_spec (w0 : World) (L : List Asn) (X : Option Addr) (x : Nat) (xs : List Int) (hX : Rd w0 L intE X x xs) (R : Option Addr) (r : Nat) (ls : List LiM) (hH : RdLs w0 L R r ls) (S : Option Addr) (s : Nat) (st : List Int) (hT : Rd w0 L intE S s st)
    (Y : Option Addr) (y : Nat) (ys : List Int) (hY : Rd w0 L intE Y y ys) (Q : Option Addr) (q : Nat) (ms : List LiM) (hM : RdLs w0 L Q q ms) (U : Option Addr) (u : Nat) (tt : List Int) (hU : Rd w0 L intE U u tt) (hx : xs.length ≤ 1100000) (hZ : SizeLs ls) (hs : st.length ≤ 1100000) :
    Tr Try.prog 46 #[.agg #[.slice X xs.length x, .slice R ls.length r, .slice S st.length s], .agg #[.slice Y ys.length y, .slice Q ms.length q, .slice U tt.length u]] w0 L (fun v L' => v = .bool (decide (xs = ys ∧ li ls = li ms ∧ st = tt)) ∧ L' = L) := by
  refine Tr.enter (args := [.agg #[.slice X xs.length x, .slice R ls.length r, .slice S st.length s], .agg #[.slice Y ys.length y, .slice Q ms.length q, .slice U tt.length u]]) Try.func46 Try.ntmps46 rfl rfl ?_
  refine GC.seq ?_
  refine GC.region ?_
  refine GL.box_agg rfl rfl ?_; intro g2
  refine GL.box_agg rfl rfl ?_; intro g3
  refine GL.v Wag ?_
  refine GL.nil ?_
  refine GE.seq ?_
  refine GC.seq ?_
  refine GC.seq ?_
  refine GC.region ?_
  refine GL.v Wfa ?_
  refine GL.v Wlb ?_
  refine GL.v Wfa ?_
  refine GL.v Wlb ?_
  refine GL.callF rfl rfl (eqIntS_spec _ _ _ _ _ (hX.imp Wim) _ _ _ (hY.imp Wim) hx) ?_
  refine GL.v Wnt ?_
  refine GL.nil ?_
  refine GE.seq ?_
  refine GC.ifs (fun h1 => ?_) (fun h1 => ?_)
  · -- T
    refine GC.seq ?_
    refine GC.region ?_
    refine GL.v Wag ?_
    refine GL.nil ?_
    refine GE.seq ?_
    refine GC.ret ?_
    refine GE.seq_ret ?_
    -- returns, path T
    refine GE.ret_tmp (L' := L) (.inl rfl) rfl rfl Wsb ?_
    exact ⟨by simp [h1], rfl⟩
  · -- F
    refine GC.skip ?_
    refine GE.seq ?_
    refine GC.seq ?_
    refine GC.seq ?_
    refine GC.region ?_
    refine GL.v Wfa ?_
    refine GL.v Wlb ?_
    refine GL.v Wfa ?_
    refine GL.v Wlb ?_
    refine GL.callF rfl rfl (eqIntSS_spec _ _ _ _ _ (hH.imp Wim) _ _ _ (hM.imp Wim) hZ) ?_
    refine GL.v Wnt ?_
    refine GL.nil ?_
    refine GE.seq ?_
    refine GC.ifs (fun h2 => ?_) (fun h2 => ?_)
    · -- FT
      refine GC.seq ?_
      refine GC.region ?_
      refine GL.v Wag ?_
      refine GL.nil ?_
      refine GE.seq ?_
      refine GC.ret ?_
      refine GE.seq_ret ?_
      -- returns, path FT
      refine GE.ret_tmp (L' := L) (.inl rfl) rfl rfl Wsb ?_
      exact ⟨by simp [h1, h2], rfl⟩
    · -- FF
      refine GC.skip ?_
      refine GE.seq ?_
      refine GC.seq ?_
      refine GC.seq ?_
      refine GC.region ?_
      refine GL.v Wfa ?_
      refine GL.v Wlb ?_
      refine GL.v Wfa ?_
      refine GL.v Wlb ?_
      refine GL.callF rfl rfl (eqIntS_spec _ _ _ _ _ (hT.imp Wim) _ _ _ (hU.imp Wim) hs) ?_
      refine GL.v Wnt ?_
      refine GL.nil ?_
      refine GE.seq ?_
      refine GC.ifs (fun h3 => ?_) (fun h3 => ?_)
      · -- FFT
        refine GC.seq ?_
        refine GC.region ?_
        refine GL.v Wag ?_
        refine GL.nil ?_
        refine GE.seq ?_
        refine GC.ret ?_
        refine GE.seq_ret ?_
        -- returns, path FFT
        refine GE.ret_tmp (L' := L) (.inl rfl) rfl rfl Wsb ?_
        exact ⟨by simp [h1, h2, h3], rfl⟩
      · -- FFF
        refine GC.skip ?_
        refine GE.seq ?_
        refine GC.seq ?_
        refine GC.region ?_
        refine GL.v Wag ?_
        refine GL.nil ?_
        refine GE.seq ?_
        refine GC.ret ?_
        -- returns, path FFF
        refine GE.ret_tmp (L' := L) (.inl rfl) rfl rfl Wsb ?_
        exact ⟨by simp [h1, h2, h3], rfl⟩
theorem markLazy_spec (w0 : World) (L : List Asn) (X : Option Addr) (x : Nat) (xs : List Int) (R : Option Addr) (r : Nat) (ls : List LiM) (S : Option Addr) (s : Nat) (st : List Int) (k : Int) (h0 : 0 ≤ k) (h1 : k ≤ 1000000) (hx : xs.length ≤ 1100000) (hZ : SizeLs ls) (hs : st.length ≤ 1100000) :
    Tr Try.prog 47 #[.agg #[.slice X xs.length x, .slice R ls.length r, .slice S st.length s], .int .i64 k] w0 (row intE X x xs :: row slE R r ls :: rowsA ls :: row intE S s st :: L) (fun v L' => v = .int .i64 (kAt (k + xs.length) ls ls.length + st.length) ∧ L' = row intE X x (marked k xs.length) :: row slE R r (markLs (k + xs.length) ls) :: rowsA (markLs (k + xs.length) ls) :: row intE S s (marked (kAt (k + xs.length) ls ls.length) st.length) :: L) := by
  have hkb := kAt_bound (k := k + xs.length) hZ ls.length (Nat.le_refl _)
  have hzl := hZ.1
  refine Tr.enter (args := [.agg #[.slice X xs.length x, .slice R ls.length r, .slice S st.length s], .int .i64 k]) Try.func47 Try.ntmps47 rfl rfl ?_
  refine GC.seq ?_
  refine GC.region ?_
  refine GL.box_agg rfl rfl ?_; intro g2
  refine GL.v Wag ?_
  refine GL.nil ?_
  refine GE.seq ?_
  refine GC.seq ?_
  refine GC.region ?_
  refine GL.v Wfa ?_
  refine GL.v Wlb ?_
  refine GL.v Wmv ?_
  refine GL.front (A := row intE X x xs) Wpk ?_
  refine GL.call rfl rfl (markIntS_spec _ _ _ _ _ _ h0 (by omega) hx) ?_
  rintro _ _ ⟨rfl, rfl⟩
  refine GL.v Wag ?_
  refine GL.nil ?_
  refine GE.seq ?_
  refine GC.seq ?_
  refine GC.region ?_
  refine GL.v Wfa ?_
  refine GL.v Wlb ?_
  refine GL.v Wmv ?_
  refine GL.front (A := rowsA ls) Wpk ?_
  refine GL.front (A := row slE R r ls) Wpk ?_
  refine GL.call rfl rfl (markIntSS_spec _ _ _ _ _ hZ _ (by omega) (by omega)) ?_
  rintro _ _ ⟨rfl, rfl⟩
  refine GL.v Wag ?_
  refine GL.nil ?_
  refine GE.seq ?_
  refine GC.seq ?_
  refine GC.region ?_
  refine GL.v Wfa ?_
  refine GL.v Wlb ?_
  refine GL.v Wmv ?_
  refine GL.callP rfl rfl Wpk (markIntS_spec _ _ _ _ _ _ Wom Wom Wom) ?_
  rintro _ _ ⟨rfl, rfl⟩
  refine GL.v Wag ?_
  refine GL.nil ?_
  refine GE.seq ?_
  refine GC.seq ?_
  refine GC.region ?_
  refine GL.v Wmv ?_
  refine GL.v Wag ?_
  refine GL.nil ?_
  refine GE.seq ?_
  refine GC.ret ?_
  -- returns, path 
  refine GE.ret_tmp (L' := row intE X x (marked k xs.length) :: row slE R r (markLs (k + xs.length) ls) :: rowsA (markLs (k + xs.length) ls) :: row intE S s (marked (kAt (k + xs.length) ls ls.length) st.length) :: L) (.inl rfl) rfl rfl Wsb ?_
  exact ⟨rfl, rfl⟩
theorem heldLazy_spec (w0 : World) (L : List Asn) (X : Option Addr) (x n : Nat) (R : Option Addr) (r m : Nat) (ls : List LiM) (S : Option Addr) (s p : Nat) (k : Int) (hX : Rd w0 L intE X x (marked k n)) (hH : RdLs w0 L R r (markLs (k + n) ls)) (hT : Rd w0 L intE S s (marked (kAt (k + n) ls ls.length) p)) (hm : m = ls.length) (h0 : 0 ≤ k) (h1 : k ≤ 1000000) (hx : n ≤ 1100000) (hZ : SizeLs ls) (hs : p ≤ 1100000) :
    Tr Try.prog 48 #[.agg #[.slice X n x, .slice R m r, .slice S p s], .int .i64 k] w0 L (fun v L' => v = .int .i64 (kAt (k + n) ls ls.length + p) ∧ L' = L) := by
  have hkb := kAt_bound (k := k + n) hZ ls.length (Nat.le_refl _)
  have hzl := hZ.1
  refine Tr.enter (args := [.agg #[.slice X n x, .slice R m r, .slice S p s], .int .i64 k]) Try.func48 Try.ntmps48 rfl rfl ?_
  refine GC.seq ?_
  refine GC.region ?_
  refine GL.box_agg rfl rfl ?_; intro g2
  refine GL.v Wag ?_
  refine GL.nil ?_
  refine GE.seq ?_
  refine GC.seq ?_
  refine GC.region ?_
  refine GL.v Wfa ?_
  refine GL.v Wlb ?_
  refine GL.v Wmv ?_
  refine GL.callF rfl rfl (heldIntS_spec _ _ _ _ _ _ (hX.imp Wim) h0 (by omega) hx) ?_
  refine GL.v Wag ?_
  refine GL.nil ?_
  refine GE.seq ?_
  refine GC.seq ?_
  refine GC.seq ?_
  refine GC.region ?_
  refine GL.v Wmv ?_
  refine GL.v Wls ?_
  refine GL.nil ?_
  refine GE.seq ?_
  refine GC.ifs (fun h1 => ?_) (fun h1 => ?_)
  · -- T
    omega
  · -- F
    refine GC.skip ?_
    refine GE.seq ?_
    refine GC.seq ?_
    refine GC.region ?_
    refine GL.v Wfa ?_
    refine GL.v Wlb ?_
    refine GL.v Wmv ?_
    refine GL.callF rfl rfl (heldIntSS_spec _ _ _ _ _ _ _ (hH.imp Wim) hZ hm (by omega) (by omega)) ?_
    refine GL.v Wag ?_
    refine GL.nil ?_
    refine GE.seq ?_
    refine GC.seq ?_
    refine GC.seq ?_
    refine GC.region ?_
    refine GL.v Wmv ?_
    refine GL.v Wls ?_
    refine GL.nil ?_
    refine GE.seq ?_
    refine GC.ifs (fun h2 => ?_) (fun h2 => ?_)
    · -- FT
      omega
    · -- FF
      refine GC.skip ?_
      refine GE.seq ?_
      refine GC.seq ?_
      refine GC.region ?_
      refine GL.v Wfa ?_
      refine GL.v Wlb ?_
      refine GL.v Wmv ?_
      refine GL.callF rfl rfl (heldIntS_spec _ _ _ _ _ _ (hT.imp Wim) (by omega) (by omega) hs) ?_
      refine GL.v Wag ?_
      refine GL.nil ?_
      refine GE.seq ?_
      refine GC.seq ?_
      refine GC.seq ?_
      refine GC.region ?_
      refine GL.v Wmv ?_
      refine GL.v Wls ?_
      refine GL.nil ?_
      refine GE.seq ?_
      refine GC.ifs (fun h3 => ?_) (fun h3 => ?_)
      · -- FFT
        omega
      · -- FFF
        refine GC.skip ?_
        refine GE.seq ?_
        refine GC.seq ?_
        refine GC.region ?_
        refine GL.v Wmv ?_
        refine GL.v Wag ?_
        refine GL.nil ?_
        refine GE.seq ?_
        refine GC.ret ?_
        -- returns, path FFF
        refine GE.ret_tmp (L' := L) (.inl rfl) rfl rfl Wsb ?_
        exact ⟨rfl, rfl⟩
theorem sizeLs_laz {ls : List LiM} {gs : List Nd} {xs : List Int} (h : li ls = lazR gs xs) : SizeLs ls := by
  have hl := lazR_ten gs xs
  have hn := lazR_nil gs xs
  rw [← h] at hl hn
  refine ⟨by rw [li_length] at hl; omega, fun i hi => ?_⟩
  have h1 : (li ls)[i]'(by simpa using hi) = ls[i].xs := li_get _
  have := hn _ (List.getElem_mem (l := li ls) (n := i) (by simpa using hi))
  rw [h1] at this
  rw [this]; simp
end SG
