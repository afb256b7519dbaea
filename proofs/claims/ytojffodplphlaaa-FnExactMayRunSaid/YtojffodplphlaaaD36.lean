/- Contracts: what must run and what may run, of both. -/
import Derived.Test.YtojffodplphlaaaD21
import Derived.Test.YtojffodplphlaaaD28
import Derived.Test.YtojffodplphlaaaD35
namespace SG
open Go Go.RowKit Go.Proofs
set_option linter.unusedVariables false
set_option linter.unusedSimpArgs false
set_option maxRecDepth 100000
theorem MustRun11_spec (w0 : World) (L : List Asn) (g h : Nat) (B D : Option Addr) (d e : Nat) (xs ys : List Int) (hX : Rd w0 L intE B d xs) (hY : Rd w0 L intE D e ys) (hb : BlkRd w0 L g 26 [.slice B xs.length d]) (hb2 : BlkRd w0 L h 26 [.slice D ys.length e]) (n : Int) (h0 : 0 ≤ n) (hi : n < xs.length) (hj : n < ys.length) :
    Tr Try.prog 93 #[.int .i64 n, .pointer (some ⟨g, 0, none⟩), .pointer (some ⟨h, 0, none⟩)] w0 L (fun v L' => v = .bool (decide (at0 xs n.toNat ≠ at0 ys n.toNat)) ∧ L' = L) := by
  refine Tr.enter (args := [.int .i64 n, .pointer (some ⟨g, 0, none⟩), .pointer (some ⟨h, 0, none⟩)]) Try.func93 Try.ntmps93 rfl rfl ?_
  refine GC.seq ?_
  refine GC.region ?_
  refine GL.v Wag ?_
  refine GL.nil ?_
  refine GE.seq ?_
  refine GC.seq ?_
  refine GC.region_quiet mixed (by kernel_rfl) ?_
  refine GL.v Wlb ?_
  refine GL.v Wmv ?_
  refine GL.v Wix ?_
  refine GL.v Wle ?_
  refine GL.v Wlb ?_
  refine GL.v Wmv ?_
  refine GL.v Wix ?_
  refine GL.v Wle ?_
  refine GL.v Wnq ?_
  refine GL.v Wag ?_
  refine GL.nil ?_
  refine GE.seq ?_
  refine GC.ret ?_
  -- returns, path 
  refine GE.ret_tmp (L' := L) (.inl rfl) rfl rfl Wsb ?_
  exact ⟨by rw [← at0_eq (xs := xs) (by omega), ← at0_eq (xs := ys) (by omega)]; simp, rfl⟩
theorem MustRun1_spec (w0 : World) (L : List Asn) (g gx gy gl : Nat) (A : Option Addr) (c : Nat) (ms : List NdM) (hG : RdG w0 L A c ms) (hV : ValidG (gr ms)) (xs ys : List Int) (B : Option Addr) (d : Nat) (hX : Rd w0 L intE B d (meanL (gr ms) xs)) (D : Option Addr) (e : Nat) (hY : Rd w0 L intE D e (meanL (gr ms) ys)) (E : Option Addr) (f : Nat) (ls : List LiM) (hLs : RdLs w0 L E f ls) (hls : li ls = depsL (gr ms) xs)
    (hb1 : BlkRd w0 L g 25 [.slice A ms.length c]) (hb2 : BlkRd w0 L gx 26 [.slice B (meanL (gr ms) xs).length d]) (hb3 : BlkRd w0 L gy 26 [.slice D (meanL (gr ms) ys).length e]) (hb4 : BlkRd w0 L gl 40 [.slice E ls.length f]) (i : Nat) (hi : i < ms.length) :
    Tr Try.prog 91 #[.int .i64 i, .pointer (some ⟨g, 0, none⟩), .pointer (some ⟨gx, 0, none⟩), .pointer (some ⟨gy, 0, none⟩), .pointer (some ⟨gl, 0, none⟩)] w0 L (fun v L' => v = .bool (mustB (gr ms) xs ys i) ∧ L' = L) := by
  have hN := hG.nodes
  have hig : i < (gr ms).length := by simpa using hi
  have hm1 := meanL_length (gr ms) xs
  have hm2 := meanL_length (gr ms) ys
  rw [gr_length] at hm1 hm2
  have hll : ls.length = ms.length := by have := congrArg List.length hls; simpa using this
  have hRl := hLs.nodes
  have hRi := hLs.lists i (by omega)
  have hdi : ls[i].xs = depAt (gr ms) xs i := by
    have h1 : (li ls)[i]'(by simpa using (by omega : i < ls.length)) = ls[i].xs := li_get _
    have h2 : (depsL (gr ms) xs)[i]'(by simpa using hi) = depAt (gr ms) xs i := depsL_get _
    rw [← h1, ← h2]
    simp only [hls]
  have hdl := depAt_length hV (xs := xs) (i := i)
  rw [hdi] at hRi
  have hki : kindAt (gr ms) i = ms[i].kind := by rw [kindAt_gr (k := i) (by omega)]; rfl
  refine Tr.enter (args := [.int .i64 i, .pointer (some ⟨g, 0, none⟩), .pointer (some ⟨gx, 0, none⟩), .pointer (some ⟨gy, 0, none⟩), .pointer (some ⟨gl, 0, none⟩)]) Try.func91 Try.ntmps91 rfl rfl ?_
  refine GC.seq ?_
  refine GC.region ?_
  refine GL.v Wag ?_
  refine GL.nil ?_
  refine GE.seq ?_
  refine GC.seq ?_
  refine GC.region_quiet mixed (by kernel_rfl) ?_
  refine GL.v Wfa ?_
  refine GL.v Wlb ?_
  refine GL.v Wmv ?_
  refine GL.v Wix ?_
  refine GL.v Wfa ?_
  refine GL.v Wlef ?_
  refine GL.v Wnq ?_
  refine GL.v Wmv ?_
  refine GL.gs (fun h1 => ?_) (fun h1 => ?_)
  · -- t
    refine GL.want rfl rfl ?_
    refine GL.v Wlb ?_
    refine GL.want rfl rfl ?_
    refine GL.v Wmv ?_
    refine GL.want rfl rfl ?_
    refine GL.v Wix ?_
    refine GL.want rfl rfl ?_
    refine GL.v Wle ?_
    refine GL.want rfl rfl ?_
    refine GL.v Wlb ?_
    refine GL.want rfl rfl ?_
    refine GL.v Wmv ?_
    refine GL.want rfl rfl ?_
    refine GL.v Wix ?_
    refine GL.want rfl rfl ?_
    refine GL.v Wle ?_
    refine GL.want rfl rfl ?_
    refine GL.v Wnq ?_
    refine GL.want rfl rfl ?_
    refine GL.v Wmv ?_
    refine GL.gs (fun h2 => ?_) (fun h2 => ?_)
    · -- tt
      refine GL.unwant rfl rfl rfl rfl ?_
      refine GL.unwant rfl rfl rfl rfl ?_
      refine GL.unwant rfl rfl rfl rfl ?_
      refine GL.unwant rfl rfl rfl rfl ?_
      refine GL.unwant rfl rfl rfl rfl ?_
      refine GL.unwant rfl rfl rfl rfl ?_
      refine GL.want rfl rfl ?_
      refine GL.v Wpt ?_
      refine GL.v Wpt ?_
      refine GL.v Wag ?_
      refine GL.nil ?_
      refine GE.seq ?_
      refine GC.ret ?_
      -- returns, path tt
      refine GE.ret_tmp (L' := L) (.inl rfl) rfl rfl Wsb ?_
      rw [meanL_get, meanL_get] at h2
      exact ⟨by rw [mustB, hki, decide_eq_false h1, show decide (mean (gr ms) xs i ≠ mean (gr ms) ys i) = true from decide_eq_true h2]; rfl, rfl⟩
    · -- tf
      refine GL.want rfl rfl ?_
      refine GL.v Wlb ?_
      refine GL.want rfl rfl ?_
      refine GL.v Wmv ?_
      refine GL.want rfl rfl ?_
      refine GL.v Wix ?_
      refine GL.want rfl rfl ?_
      refine GL.v Wle ?_
      refine GL.want rfl rfl ?_
      refine GL.v (by exact EvP.r (Ev.makeFunc rfl rfl)) ?_
      refine GL.want rfl rfl ?_
      rw [show slE.val ls[i] = .slice ls[i].a ls[i].xs.length ls[i].c from rfl, hdi]
      refine GL.callF rfl rfl (ContainsFunc_spec _ _ _ _ (depAt (gr ms) xs i) (hRi.imp Wim) Wom 93 #[] #[.pointer (some ⟨gx, 0, none⟩), .pointer (some ⟨gy, 0, none⟩)] (fun n => decide (mean (gr ms) xs n.toNat ≠ mean (gr ms) ys n.toNat)) (fun X hXi n hn => by have hm := mayAt_lt hV (depAt_may hV n hn); have := MustRun11_spec w0 X gx gy B D d e (meanL (gr ms) xs) (meanL (gr ms) ys) (hX.imp (hXi.trans Wim)) (hY.imp (hXi.trans Wim)) (hb2.imp (hXi.trans Wim)) (hb3.imp (hXi.trans Wim)) n hm.1 (by omega) (by omega); rw [meanL_at (by omega), meanL_at (by omega)] at this; exact this)) ?_
      refine GL.want rfl rfl ?_
      refine GL.v Wpf ?_
      refine GL.v Wpt ?_
      refine GL.v Wag ?_
      refine GL.nil ?_
      refine GE.seq ?_
      refine GC.ret ?_
      -- returns, path tf
      refine GE.ret_tmp (L' := L) (.inl rfl) rfl rfl Wsb ?_
      rw [meanL_get, meanL_get] at h2
      exact ⟨by rw [mustB, hki, decide_eq_false h1, show decide (mean (gr ms) xs i ≠ mean (gr ms) ys i) = false from decide_eq_false (fun hn => hn h2), Bool.not_false, Bool.true_and, Bool.false_or], rfl⟩
  · -- f
    refine GL.unwant rfl rfl rfl rfl ?_
    refine GL.unwant rfl rfl rfl rfl ?_
    refine GL.unwant rfl rfl rfl rfl ?_
    refine GL.unwant rfl rfl rfl rfl ?_
    refine GL.unwant rfl rfl rfl rfl ?_
    refine GL.unwant rfl rfl rfl rfl ?_
    refine GL.unwant rfl rfl rfl rfl ?_
    refine GL.unwant rfl rfl rfl rfl ?_
    refine GL.unwant rfl rfl rfl rfl ?_
    refine GL.unwant rfl rfl rfl rfl ?_
    refine GL.unwantU rfl rfl rfl ?_
    refine GL.unwantU rfl rfl rfl ?_
    refine GL.unwantU rfl rfl rfl ?_
    refine GL.unwantU rfl rfl rfl ?_
    refine GL.unwantU rfl rfl rfl ?_
    refine GL.unwantU rfl rfl rfl ?_
    refine GL.unwant rfl rfl rfl rfl ?_
    refine GL.v Wpf ?_
    refine GL.v Wag ?_
    refine GL.nil ?_
    refine GE.seq ?_
    refine GC.ret ?_
    -- returns, path f
    refine GE.ret_tmp (L' := L) (.inl rfl) rfl rfl Wsb ?_
    exact ⟨by rw [mustB, hki, decide_eq_true h1]; rfl, rfl⟩
theorem iMustRun_spec (w0 : World) (L : List Asn) (A : Option Addr) (c : Nat) (ms : List NdM) (hG : RdG w0 L A c ms) (B : Option Addr) (d : Nat) (xs : List Int) (hX : Rd w0 L intE B d xs) (D : Option Addr) (e : Nat) (ys : List Int) (hY : Rd w0 L intE D e ys) (hl : ms.length ≤ 1100000) (hx : xs.length ≤ 1100000) (hy : ys.length ≤ 1100000) :
    Tr Try.prog 44 #[.agg #[.slice A ms.length c], .slice B xs.length d, .slice D ys.length e] w0 L (fun v L' => ∃ E f, v = .slice E (mustL (gr ms) xs ys).length f ∧ L' = row intE E f (mustL (gr ms) xs ys) :: L) := by
  refine Tr.enter (args := [.agg #[.slice A ms.length c], .slice B xs.length d, .slice D ys.length e]) Try.func44 Try.ntmps44 rfl rfl ?_
  refine GC.seq ?_
  refine GC.region ?_
  refine GL.box_agg rfl rfl ?_; intro g3
  refine GL.v Wag ?_
  refine GL.nil ?_
  refine GE.seq ?_
  refine GC.seq ?_
  refine GC.seq ?_
  refine GC.region ?_
  refine GL.v Wlba ?_
  refine GL.v Wmv ?_
  refine GL.callF rfl rfl (iValidCells_spec _ _ _ _ _ (by first | assumption | exact RdG.imp (by assumption) Wim | exact RdG.of_pick Wpk Wpk) _ _ _ Wrd (by first | omega | exact SizeG.le (by assumption)) Wom) ?_
  refine GL.v Wnt ?_
  refine GL.v Wmv ?_
  refine GL.gs (fun h1 => ?_) (fun h1 => ?_)
  · -- t
    refine GL.unwant rfl rfl rfl rfl ?_
    refine GL.unwant rfl rfl rfl rfl ?_
    refine GL.unwant rfl rfl rfl rfl ?_
    refine GL.unwant rfl rfl rfl rfl ?_
    refine GL.v Wpt ?_
    refine GL.nil ?_
    refine GE.seq ?_
    refine GC.cond_true rfl ?_
    refine GC.seq ?_
    refine GC.region ?_
    refine GL.v Wag ?_
    refine GL.nil ?_
    refine GE.seq ?_
    refine GC.ret ?_
    refine GE.seq_ret ?_
    -- returns, path t
    refine GE.state (fun _ hs => hs.empty intE none) ?_
    refine GE.ret_tmp (L' := row intE none 0 [] :: L) (.inl rfl) rfl rfl Wsb ?_
    rw [mustL_no (.inl h1)]
    exact ⟨none, 0, rfl, rfl⟩
  · -- f
    refine GL.want rfl rfl ?_
    refine GL.v Wlba ?_
    refine GL.want rfl rfl ?_
    refine GL.v Wmv ?_
    refine GL.want rfl rfl ?_
    refine GL.callF rfl rfl (iValidCells_spec _ _ _ _ _ (by first | assumption | exact RdG.imp (by assumption) Wim | exact RdG.of_pick Wpk Wpk) _ _ _ Wrd (by first | omega | exact SizeG.le (by assumption)) Wom) ?_
    refine GL.want rfl rfl ?_
    refine GL.v Wnt ?_
    refine GL.v Wpf ?_
    refine GL.nil ?_
    refine GE.seq ?_
    refine GC.ifs (fun h2 => ?_) (fun h2 => ?_)
    · -- fT
      refine GC.seq ?_
      refine GC.region ?_
      refine GL.v Wag ?_
      refine GL.nil ?_
      refine GE.seq ?_
      refine GC.ret ?_
      refine GE.seq_ret ?_
      -- returns, path fT
      refine GE.state (fun _ hs => hs.empty intE none) ?_
      refine GE.ret_tmp (L' := row intE none 0 [] :: L) (.inl rfl) rfl rfl Wsb ?_
      rw [mustL_no (.inr h2)]
      exact ⟨none, 0, rfl, rfl⟩
    · -- fF
      refine GC.skip ?_
      refine GE.seq ?_
      refine GC.seq ?_
      refine GC.region ?_
      refine GL.v Wlba ?_
      refine GL.v Wmv ?_
      refine GL.call rfl rfl (meaning_spec w0 _ A c ms (by first | assumption | exact RdG.imp (by assumption) Wim | exact RdG.of_pick Wpk Wpk) B d xs (hX.imp Wim) h1) ?_
      rintro _ _ ⟨D1, E1, ls1, hls1, rfl, rfl⟩
      refine GL.v Wmv ?_
      refine GL.v Wxt ?_
      refine GL.v Wxt ?_
      refine GL.alloc rfl ?_; intro g7
      refine GL.alloc rfl ?_; intro g8
      refine GL.store_var1 rfl rfl rfl Wpk (by rfl) (by rfl) ?_
      refine GL.store_var1 rfl rfl rfl Wpk (by rfl) (by rfl) ?_
      refine GL.nil ?_
      refine GE.seq ?_
      refine GC.seq ?_
      refine GC.region ?_
      refine GL.v Wlba ?_
      refine GL.v Wmv ?_
      refine GL.call rfl rfl (meaning_spec w0 _ A c ms (by first | assumption | exact RdG.imp (by assumption) Wim | exact RdG.of_pick Wpk Wpk) D e ys (hY.imp Wim) h2) ?_
      rintro _ _ ⟨D2, E2, ls2, hls2, rfl, rfl⟩
      have hm1 := meanL_length (gr ms) xs
      have hm2 := meanL_length (gr ms) ys
      rw [gr_length] at hm1 hm2
      have hV := (cellsV_iff.1 h1).1
      have hll1 : ls1.length = ms.length := by have := congrArg List.length hls1; simpa using this
      refine GL.v Wmv ?_
      refine GL.v Wxt ?_
      refine GL.v Wxt ?_
      refine GL.alloc rfl ?_; intro g9
      refine GL.store_var1 rfl rfl rfl Wpk (by rfl) (by rfl) ?_
      refine GL.v Wag ?_
      refine GL.nil ?_
      refine GE.seq ?_
      refine GC.seq ?_
      refine GC.region ?_
      refine GL.v Wlba ?_
      refine GL.v (by exact EvP.r (Ev.makeFunc rfl rfl)) ?_
      refine GL.call rfl rfl (which_spec w0 _ A ms.length c hl 91 #[] #[.pointer (some ⟨g3, 0, none⟩), .pointer (some ⟨g7, 0, none⟩), .pointer (some ⟨g9, 0, none⟩), .pointer (some ⟨g8, 0, none⟩)] (mustB (gr ms) xs ys) (fun X hXi i hi => MustRun1_spec w0 X g3 g7 g9 g8 A c ms (hG.imp (hXi.trans Wim)) hV xs ys D1 ms.length ((Rd.of_pick Wpk).imp hXi) D2 ms.length ((Rd.of_pick Wpk).imp hXi) E1 ms.length ls1 ((RdLs.of_pick Wpk Wpk).imp hXi) hls1 ((BlkRd.of_pick Wpk).imp hXi) ((BlkRd.of_pick Wpk).imp hXi) ((BlkRd.of_pick Wpk).imp hXi) ((BlkRd.of_pick Wpk).imp hXi) i hi)) ?_
      rintro _ _ ⟨F, rfl, rfl⟩
      refine GL.v Wag ?_
      refine GL.nil ?_
      refine GE.seq ?_
      refine GC.ret ?_
      -- returns, path fF
      refine GE.ret_tmp (L' := row intE F (whichL ms.length (mustB (gr ms) xs ys)).length (whichL ms.length (mustB (gr ms) xs ys)) :: L) (.inl rfl) rfl rfl Wsb ?_
      rw [mustL_yes h1 h2, gr_length]
      exact ⟨_, _, rfl, rfl⟩
theorem meets_spec (w0 : World) (L : List Asn) (A : Option Addr) (c : Nat) (xs : List Int) (hX : Rd w0 L intE A c xs) (B : Option Addr) (d : Nat) (ys : List Int) (hY : Rd w0 L intE B d ys) (hl : xs.length ≤ 1100000) (hy : ys.length ≤ 1100000) :
    Tr Try.prog 94 #[.slice A xs.length c, .slice B ys.length d] w0 L (fun v L' => v = .bool (xs.any fun x => ys.contains x) ∧ L' = L) := by
  refine Tr.enter (args := [.slice A xs.length c, .slice B ys.length d]) Try.func94 Try.ntmps94 rfl rfl ?_
  refine GC.seq ?_
  refine GC.region ?_
  refine GL.v Wag ?_
  refine GL.nil ?_
  refine GE.seq ?_
  refine GC.seq ?_
  refine GC.seq ?_
  refine GC.region ?_
  refine GL.v Wag ?_
  refine GL.nil ?_
  refine GE.seq ?_
  refine GC.block ?_
  -- loop 1: carried slots [5]
  refine GC.loopK (α := Nat) (fun i => i ≤ xs.length ∧ ((xs.take i).any fun x => ys.contains x) = false) (fun i => [(5, .int .i64 i)]) [(0, _), (1, _)] (fun i => L) (fun i => xs.length - i) 0 Wkp Wsb ⟨Nat.zero_le _, by simp⟩ ?_
  rintro i ⟨hi, hno⟩
  refine GC.seq ?_
  refine GC.seq ?_
  refine GC.region ?_
  refine GL.v Wmv ?_
  refine GL.v Wmv ?_
  refine GL.v Wln ?_
  refine GL.v Wls ?_
  refine GL.nil ?_
  refine GE.seq ?_
  refine GC.ifs (fun h1 => ?_) (fun h1 => ?_)
  · -- T
    have hil : i < xs.length := by omega
    have hts := any_take_succ (p := fun x => ys.contains x) hil
    refine GC.skip ?_
    refine GE.seq ?_
    refine GC.seq ?_
    refine GC.block ?_
    refine GC.seq ?_
    refine GC.region ?_
    refine GL.v Wmv ?_
    refine GL.v Wmv ?_
    refine GL.v Wmv ?_
    refine GL.v Wix ?_
    refine GL.v Wle ?_
    refine GL.call rfl rfl (placeIn_spec _ _ _ _ _ Wrd Wom _) ?_
    rintro _ _ ⟨k17, rfl, hk17, e17⟩
    rw [e17]; clear e17
    refine GL.v Wgq ?_
    refine GL.nil ?_
    refine GE.seq ?_
    refine GC.ifs (fun h2 => ?_) (fun h2 => ?_)
    · -- TT
      refine GC.seq ?_
      refine GC.region ?_
      refine GL.v Wag ?_
      refine GL.nil ?_
      refine GE.seq ?_
      refine GC.ret ?_
      refine GE.block_ret ?_
      refine GE.seq_ret ?_
      refine GE.loop_ret ?_
      refine GE.block_ret ?_
      refine GE.seq_ret ?_
      -- returns, path TT
      refine GE.ret_tmp (L' := L) (.inl rfl) rfl rfl Wsb ?_
      have hc : ys.contains xs[i] = true := by
        cases hc : ys.contains xs[i] with
        | true => rfl
        | false => have := hk17.2 hc; omega
      exact ⟨by rw [show (xs.any fun x => ys.contains x) = true from List.any_eq_true.2 ⟨_, List.getElem_mem hil, hc⟩], rfl⟩
    · -- TF
      refine GC.skip ?_
      refine GE.block ?_
      refine GE.seq ?_
      refine GC.region ?_
      refine GL.v Wmv ?_
      refine GL.v Wad ?_
      refine GL.v Wag ?_
      refine GL.nil ?_
      -- round of loop 1, path TF
      have hc := hk17.1 (by omega)
      refine GE.round (i + 1) ⟨by omega, by rw [hts, hno]; simpa using hc⟩ (by omega) Wkp Wsb
  · -- F
    refine GC.exit ?_
    refine GE.seq_exit ?_
    refine GE.loop_exit ?_
    refine GE.block_exit ?_
    refine GE.seq ?_
    refine GC.seq ?_
    refine GC.region ?_
    refine GL.v Wag ?_
    refine GL.nil ?_
    refine GE.seq ?_
    refine GC.ret ?_
    -- returns, path F
    refine GE.ret_tmp (L' := L) (.inl rfl) rfl rfl Wsb ?_
    exact ⟨by rw [List.take_of_length_le (by omega)] at hno; rw [hno], rfl⟩
theorem sMustRun_spec (w0 : World) (L : List Asn) (A : Option Addr) (c : Nat) (ms : List NdM) (hG : RdG w0 L A c ms) (B : Option Addr) (d : Nat) (xs : List Int) (hX : Rd w0 L intE B d xs) (D : Option Addr) (e : Nat) (ys : List Int) (hY : Rd w0 L intE D e ys) (hS : SizeG ms) (hx : xs.length ≤ 1100000) (hy : ys.length ≤ 1100000) :
    Tr Try.prog 45 #[.agg #[.slice A ms.length c], .slice B xs.length d, .slice D ys.length e] w0 L (fun v L' => ∃ E f, v = .slice E (mustL (gr ms) xs ys).length f ∧ L' = row intE E f (mustL (gr ms) xs ys) :: L) := by
  have hSl := hS.1
  have hN := hG.nodes
  refine Tr.enter (args := [.agg #[.slice A ms.length c], .slice B xs.length d, .slice D ys.length e]) Try.func45 Try.ntmps45 rfl rfl ?_
  refine GC.seq ?_
  refine GC.region ?_
  refine GL.box_agg rfl rfl ?_; intro g3
  refine GL.v Wag ?_
  refine GL.nil ?_
  refine GE.seq ?_
  refine GC.seq ?_
  refine GC.seq ?_
  refine GC.region ?_
  refine GL.v Wlba ?_
  refine GL.callF rfl rfl (svalidGraph_spec _ _ _ _ _ (by first | assumption | exact RdG.imp (by assumption) Wim | exact RdG.of_pick Wpk Wpk) (by assumption)) ?_
  refine GL.v Wnt ?_
  refine GL.v Wmv ?_
  refine GL.gs (fun h1 => ?_) (fun h1 => ?_)
  · -- t
    refine GL.unwant rfl rfl rfl rfl ?_
    refine GL.unwant rfl rfl rfl rfl ?_
    refine GL.unwant rfl rfl rfl rfl ?_
    refine GL.unwant rfl rfl rfl rfl ?_
    refine GL.v Wpt ?_
    refine GL.v Wmv ?_
    refine GL.unwant rfl rfl rfl rfl ?_
    refine GL.unwant rfl rfl rfl rfl ?_
    refine GL.unwant rfl rfl rfl rfl ?_
    refine GL.unwant rfl rfl rfl rfl ?_
    refine GL.v Wpt ?_
    refine GL.nil ?_
    refine GE.seq ?_
    refine GC.cond_true rfl ?_
    refine GC.seq ?_
    refine GC.region ?_
    refine GL.v Wag ?_
    refine GL.nil ?_
    refine GE.seq ?_
    refine GC.ret ?_
    refine GE.seq_ret ?_
    -- returns, path t
    refine GE.state (fun _ hs => hs.empty intE none) ?_
    refine GE.ret_tmp (L' := row intE none 0 [] :: L) (.inl rfl) rfl rfl Wsb ?_
    rw [mustL_no (.inl (by rw [cellsV, h1]; rfl))]
    exact ⟨none, 0, rfl, rfl⟩
  · -- f
    refine GL.want rfl rfl ?_
    refine GL.v Wlba ?_
    refine GL.want rfl rfl ?_
    refine GL.v Wmv ?_
    refine GL.want rfl rfl ?_
    refine GL.callF rfl rfl (svalidCells_spec _ _ _ _ _ (by first | assumption | exact RdG.imp (by assumption) Wim | exact RdG.of_pick Wpk Wpk) _ _ _ Wrd Wom) ?_
    refine GL.want rfl rfl ?_
    refine GL.v Wnt ?_
    refine GL.v Wpf ?_
    refine GL.v Wmv ?_
    refine GL.gs (fun h2 => ?_) (fun h2 => ?_)
    · -- ft
      refine GL.unwant rfl rfl rfl rfl ?_
      refine GL.unwant rfl rfl rfl rfl ?_
      refine GL.unwant rfl rfl rfl rfl ?_
      refine GL.unwant rfl rfl rfl rfl ?_
      refine GL.v Wpt ?_
      refine GL.nil ?_
      refine GE.seq ?_
      refine GC.cond_true rfl ?_
      refine GC.seq ?_
      refine GC.region ?_
      refine GL.v Wag ?_
      refine GL.nil ?_
      refine GE.seq ?_
      refine GC.ret ?_
      refine GE.seq_ret ?_
      -- returns, path ft
      refine GE.state (fun _ hs => hs.empty intE none) ?_
      refine GE.ret_tmp (L' := row intE none 0 [] :: L) (.inl rfl) rfl rfl Wsb ?_
      rw [mustL_no (.inl (by rw [cellsV, h2]; simp))]
      exact ⟨none, 0, rfl, rfl⟩
    · -- ff
      refine GL.want rfl rfl ?_
      refine GL.v Wlba ?_
      refine GL.want rfl rfl ?_
      refine GL.v Wmv ?_
      refine GL.want rfl rfl ?_
      refine GL.callF rfl rfl (svalidCells_spec _ _ _ _ _ (by first | assumption | exact RdG.imp (by assumption) Wim | exact RdG.of_pick Wpk Wpk) _ _ _ Wrd Wom) ?_
      refine GL.want rfl rfl ?_
      refine GL.v Wnt ?_
      refine GL.v Wpf ?_
      refine GL.nil ?_
      refine GE.seq ?_
      refine GC.ifs (fun h3 => ?_) (fun h3 => ?_)
      · -- ffT
        refine GC.seq ?_
        refine GC.region ?_
        refine GL.v Wag ?_
        refine GL.nil ?_
        refine GE.seq ?_
        refine GC.ret ?_
        refine GE.seq_ret ?_
        -- returns, path ffT
        refine GE.state (fun _ hs => hs.empty intE none) ?_
        refine GE.ret_tmp (L' := row intE none 0 [] :: L) (.inl rfl) rfl rfl Wsb ?_
        rw [mustL_no (.inr (by rw [cellsV, h3]; simp))]
        exact ⟨none, 0, rfl, rfl⟩
      · -- ffF
        have hC1 : cellsV (gr ms) xs = true := by rw [cellsV, h1, h2]; rfl
        have hC2 : cellsV (gr ms) ys = true := by rw [cellsV, h1, h3]; rfl
        have hV := (cellsV_iff.1 hC1).1
        have hl10 := (cellsV_len hC1).2
        have hm1 := meanL_length (gr ms) xs
        have hm2 := meanL_length (gr ms) ys
        have hdl := diffL_length (gr ms) xs ys
        have hgl := gr_length ms
        refine GC.skip ?_
        refine GE.seq ?_
        refine GC.seq ?_
        refine GC.region ?_
        refine GL.v Wlba ?_
        refine GL.v Wmv ?_
        refine GL.call rfl rfl (smeaning_spec w0 _ A c ms (by first | assumption | exact RdG.imp (by assumption) Wim | exact RdG.of_pick Wpk Wpk) B d xs (hX.imp Wim) hC1) ?_
        rintro _ _ ⟨D1, e1, rfl, rfl⟩
        refine GL.v Wag ?_
        refine GL.nil ?_
        refine GE.seq ?_
        refine GC.seq ?_
        refine GC.region ?_
        refine GL.v Wmv ?_
        refine GL.v Wlba ?_
        refine GL.v Wmv ?_
        refine GL.call rfl rfl (smeaning_spec w0 _ A c ms (by first | assumption | exact RdG.imp (by assumption) Wim | exact RdG.of_pick Wpk Wpk) D e ys (hY.imp Wim) hC2) ?_
        rintro _ _ ⟨D2, e2, rfl, rfl⟩
        refine GL.call rfl rfl (differing_spec w0 _ _ _ (meanL (gr ms) xs) Wrd _ _ (meanL (gr ms) ys) Wrd (by omega) (by omega)) ?_
        rintro _ _ ⟨E, f, rfl, rfl⟩
        rw [differ_mean]
        refine GL.v Wag ?_
        refine GL.nil ?_
        refine GE.seq ?_
        refine GC.seq ?_
        refine GC.region ?_
        refine GL.buildSlice rfl (by first | exact bsInt0 | exact bsInt1 _ | exact bsInt2 _ _ | exact bsInt3 _ _ _ | exact bsInt4 _ _ _ _ | exact bsInt5 _ _ _ _ _ | exact bsInt6 _ _ _ _ _ _ | exact bsInt7 _ _ _ _ _ _ _ | exact bsInt8 _ _ _ _ _ _ _ _ | exact bsInt9 _ _ _ _ _ _ _ _ _ | exact bsInt10 _ _ _ _ _ _ _ _ _ _ | exact bsPart0 | exact bsPart1 ⟨_, _, _, _, _⟩ | exact bsNode1 ⟨_, _, _, _⟩ | exact bsPtr3 _ _ _ | exact bsSl0 | exact bsSl1 ⟨_, _, _⟩) rfl (by decide) rfl ?_; intro g34
        refine GL.v Wag ?_
        refine GL.nil ?_
        refine GE.seq ?_
        refine GC.seq ?_
        refine GC.seq ?_
        refine GC.region ?_
        refine GL.v Wag ?_
        refine GL.nil ?_
        refine GE.seq ?_
        refine GC.block ?_
        -- loop 1: carried slots [9, 10]
        refine GC.loopK (α := Nat × Option Addr × Nat) (fun x => x.1 ≤ ms.length) (fun x => [(9, .slice x.2.1 (whichL x.1 (mustB (gr ms) xs ys)).length x.2.2), (10, .int .i64 x.1)]) [(3, _), (7, _), (8, _)] (fun x => row intE x.2.1 x.2.2 (whichL x.1 (mustB (gr ms) xs ys)) :: row intE E f (diffL (gr ms) xs ys) :: row intE D1 e1 (meanL (gr ms) xs) :: blk g3 25 [.slice A ms.length c] :: L) (fun x => ms.length - x.1) (0, some ⟨g34, 0, none⟩, 0) Wkp Wsb (Nat.zero_le _) ?_
        rintro ⟨i, F, k⟩ hi
        dsimp only at hi ⊢
        have hwl := whichL_length i (mustB (gr ms) xs ys)
        refine GC.seq ?_
        refine GC.seq ?_
        refine GC.region ?_
        refine GL.v Wmv ?_
        refine GL.v Wfa ?_
        refine GL.v Wlb ?_
        refine GL.v Wln ?_
        refine GL.v Wls ?_
        refine GL.nil ?_
        refine GE.seq ?_
        refine GC.ifs (fun h4 => ?_) (fun h4 => ?_)
        · -- ffFT
          have hil : i < ms.length := by omega
          have hig : i < (gr ms).length := by omega
          have hki : kindAt (gr ms) i = ms[i].kind := by rw [kindAt_gr (k := i) (by omega)]; rfl
          have hmu := must_meets hV (xs := xs) (ys := ys) hig
          have hdp := depAt_length hV (xs := xs) (i := i)
          refine GC.skip ?_
          refine GE.seq ?_
          refine GC.seq ?_
          refine GC.block ?_
          refine GC.seq ?_
          refine GC.region ?_
          refine GL.v Wfa ?_
          refine GL.v Wlb ?_
          refine GL.v Wmv ?_
          refine GL.v Wix ?_
          refine GL.v Wfa ?_
          refine GL.v Wlef ?_
          refine GL.v Wnq ?_
          refine GL.v Wmv ?_
          refine GL.gs (fun h5 => ?_) (fun h5 => ?_)
          · -- ffFTt
            refine GL.want rfl rfl ?_
            refine GL.v Wlba ?_
            refine GL.want rfl rfl ?_
            refine GL.v Wmv ?_
            refine GL.want rfl rfl ?_
            refine GL.v Wmv ?_
            refine GL.want rfl rfl ?_
            refine GL.call rfl rfl (deps_spec w0 _ A c ms (by first | assumption | exact RdG.imp (by assumption) Wim | exact RdG.of_pick Wpk Wpk) xs hC1 _ _ Wrd i hil) ?_
            rintro _ _ ⟨B53, d53, rfl, rfl⟩
            refine GL.want rfl rfl ?_
            refine GL.v Wmv ?_
            refine GL.want rfl rfl ?_
            refine GL.callF rfl rfl (meets_spec w0 _ _ _ (depAt (gr ms) xs i) Wrd _ _ (diffL (gr ms) xs ys) Wrd (by omega) (by omega)) ?_
            refine GL.v Wpt ?_
            refine GL.nil ?_
            refine GE.seq ?_
            refine GC.ifs (fun h6 => ?_) (fun h6 => ?_)
            · -- ffFTtT
              refine GC.region ?_
              refine GL.v Wmv ?_
              refine GL.v Wmv ?_
              refine GL.buildSlice rfl (by first | exact bsInt0 | exact bsInt1 _ | exact bsInt2 _ _ | exact bsInt3 _ _ _ | exact bsInt4 _ _ _ _ | exact bsInt5 _ _ _ _ _ | exact bsInt6 _ _ _ _ _ _ | exact bsInt7 _ _ _ _ _ _ _ | exact bsInt8 _ _ _ _ _ _ _ _ | exact bsInt9 _ _ _ _ _ _ _ _ _ | exact bsInt10 _ _ _ _ _ _ _ _ _ _ | exact bsPart0 | exact bsPart1 ⟨_, _, _, _, _⟩ | exact bsNode1 ⟨_, _, _, _⟩ | exact bsPtr3 _ _ _ | exact bsSl0 | exact bsSl1 ⟨_, _, _⟩) rfl (by decide) rfl ?_; intro g59
              first | (refine GL.append rfl rfl Wpk (by assumption) Wim (by first | rfl | (simp; done) | (simp; omega)) (by first | rfl | (simp; done) | (simp; omega)) (by first | omega | (simp; omega)) (by first | omega | (simp; omega)) rfl ?_; intro A60 c60) | (refine GL.append rfl rfl Wpk (Rd.of_pick Wpk) Imp.refl (by first | rfl | (simp; done) | (simp; omega)) (by first | rfl | (simp; done) | (simp; omega)) (by first | omega | (simp; omega)) (by first | omega | (simp; omega)) rfl ?_; intro A60 c60)
              refine GL.v Wag ?_
              refine GL.nil ?_
              refine GE.block ?_
              refine GE.seq ?_
              refine GC.region ?_
              refine GL.v Wmv ?_
              refine GL.v Wad ?_
              refine GL.v Wag ?_
              refine GL.nil ?_
              -- round of loop 1, path ffFTtT
              rw [whichL_yes (by rw [hmu, hki, decide_eq_false h5, h6]; rfl)]
              refine GE.round (i + 1, _, _) (by dsimp only; omega) (by dsimp only; omega) Wkp Wsb
            · -- ffFTtF
              refine GC.skip ?_
              refine GE.block ?_
              refine GE.seq ?_
              refine GC.region ?_
              refine GL.v Wmv ?_
              refine GL.v Wad ?_
              refine GL.v Wag ?_
              refine GL.nil ?_
              -- round of loop 1, path ffFTtF
              rw [whichL_no (n := i) (p := mustB (gr ms) xs ys) (by rw [hmu, hki, decide_eq_false h5, h6]; rfl)]
              refine GE.round (i + 1, F, k) (by dsimp only; omega) (by dsimp only; omega) Wkp Wsb
          · -- ffFTf
            refine GL.unwant rfl rfl rfl rfl ?_
            refine GL.unwant rfl rfl rfl rfl ?_
            refine GL.unwant rfl rfl rfl rfl ?_
            refine GL.unwant rfl rfl rfl rfl ?_
            refine GL.unwant rfl rfl rfl rfl ?_
            refine GL.unwant rfl rfl rfl rfl ?_
            refine GL.v Wpf ?_
            refine GL.nil ?_
            refine GE.seq ?_
            refine GC.cond_false rfl ?_
            refine GC.skip ?_
            refine GE.block ?_
            refine GE.seq ?_
            refine GC.region ?_
            refine GL.v Wmv ?_
            refine GL.v Wad ?_
            refine GL.v Wag ?_
            refine GL.nil ?_
            -- round of loop 1, path ffFTf
            rw [whichL_no (n := i) (p := mustB (gr ms) xs ys) (by rw [hmu, hki, decide_eq_true h5]; rfl)]
            refine GE.round (i + 1, F, k) (by dsimp only; omega) (by dsimp only; omega) Wkp Wsb
        · -- ffFF
          have hie : i = ms.length := by omega
          subst hie
          refine GC.exit ?_
          refine GE.seq_exit ?_
          refine GE.loop_exit ?_
          refine GE.block_exit ?_
          refine GE.seq ?_
          refine GC.seq ?_
          refine GC.region ?_
          refine GL.v Wmv ?_
          refine GL.v Wag ?_
          refine GL.nil ?_
          refine GE.seq ?_
          refine GC.ret ?_
          -- returns, path ffFF
          refine GE.ret_tmp (L' := row intE F k (whichL ms.length (mustB (gr ms) xs ys)) :: L) (.inl rfl) rfl rfl Wsb ?_
          rw [mustL_yes hC1 hC2, gr_length]
          exact ⟨_, _, rfl, rfl⟩
end SG
