/- Contracts: what may run, of both. -/
import Derived.Test.YtojffodplphlaaaD36
namespace SG
open Go Go.RowKit Go.Proofs
set_option linter.unusedVariables false
set_option linter.unusedSimpArgs false
set_option maxRecDepth 100000
theorem Tr.lenL {P : Program} {f : FuncId} {a : Value} {n : Nat} {B : Option Addr} {d : Nat} {w0 : World} {L : List Asn} {R : Value → List Asn → Prop} (xs : List Int) (h : n = xs.length) (hT : Tr P f #[.slice B xs.length d, a] w0 L R) : Tr P f #[.slice B n d, a] w0 L R := by rw [h]; exact hT
theorem Tr.lenL3 {P : Program} {f : FuncId} {a b : Value} {n : Nat} {B : Option Addr} {d : Nat} {w0 : World} {L : List Asn} {R : Value → List Asn → Prop} (xs : List Int) (h : n = xs.length) (hT : Tr P f #[.slice B xs.length d, a, b] w0 L R) : Tr P f #[.slice B n d, a, b] w0 L R := by rw [h]; exact hT
theorem cellsDiffer_spec (w0 : World) (L : List Asn) (A : Option Addr) (c : Nat) (ms : List NdM) (hG : RdG w0 L A c ms) (B : Option Addr) (d : Nat) (ns : List Int) (hX : Rd w0 L intE B d ns) (hl : ms.length ≤ 1100000) (hx : ns.length ≤ 1100000) :
    Tr Try.prog 97 #[.agg #[.slice A ms.length c], .slice B ns.length d] w0 L (fun v L' => v = .bool (wrB (gr ms) ns) ∧ L' = L) := by
  refine Tr.rd_cap hX fun hd1 hd2 => ?_
  refine Tr.enter (args := [.agg #[.slice A ms.length c], .slice B ns.length d]) Try.func97 Try.ntmps97 rfl rfl ?_
  refine GC.seq ?_
  refine GC.region ?_
  refine GL.box_agg rfl rfl ?_; intro g2
  refine GL.v Wag ?_
  refine GL.nil ?_
  refine GE.seq ?_
  refine GC.seq ?_
  refine GC.seq ?_
  refine GC.region ?_
  refine GL.v Wmv ?_
  refine GL.v Wln ?_
  refine GL.v Wmv ?_
  refine GL.nil ?_
  refine GE.seq ?_
  refine GC.block ?_
  -- loop 1: carried slots [9]
  refine GC.loopK (α := Nat) (fun i => i ≤ ns.length ∧ ∀ j (h : j < i) (hj : j < ns.length), cellB (gr ms) ns[j] = true ∧ (ns.take j).contains ns[j] = false) (fun i => [(9, .int .i64 i)]) [(1, _), (2, _), (7, _), (8, _)] (fun i => blk g2 25 [.slice A ms.length c] :: L) (fun i => ns.length - i) 0 Wkp Wsb ⟨Nat.zero_le _, fun _ h => by omega⟩ ?_
  rintro i ⟨hi, hok⟩
  refine GC.seq ?_
  refine GC.region ?_
  refine GL.v Wls ?_
  refine GL.nil ?_
  refine GE.seq ?_
  refine GC.seq ?_
  refine GC.ifs (fun h1 => ?_) (fun h1 => ?_)
  · -- T
    have hil : i < ns.length := by omega
    have htl : (ns.take i).length = i := by rw [List.length_take]; omega
    refine GC.skip ?_
    refine GE.seq ?_
    refine GC.seq ?_
    refine GC.block ?_
    refine GC.seq ?_
    refine GC.region ?_
    refine GL.v Wmv ?_
    refine GL.v Wix ?_
    refine GL.v Wle ?_
    refine GL.v Wag ?_
    refine GL.v Wag ?_
    refine GL.nil ?_
    refine GE.seq ?_
    refine GC.seq ?_
    refine GC.region ?_
    refine GL.v Wlba ?_
    refine GL.v Wmv ?_
    refine GL.callF rfl rfl (cell_spec _ _ _ _ _ (by first | assumption | exact RdG.imp (by assumption) Wim | exact RdG.of_pick Wpk Wpk) _ (by first | omega | exact SizeG.le (by assumption))) ?_
    refine GL.v Wnt ?_
    refine GL.v Wmv ?_
    refine GL.gs (fun h2 => ?_) (fun h2 => ?_)
    · -- Tt
      refine GL.unwant rfl rfl rfl rfl ?_
      refine GL.unwant rfl rfl rfl rfl ?_
      refine GL.unwant rfl rfl rfl rfl ?_
      refine GL.unwant rfl rfl rfl rfl ?_
      refine GL.unwant rfl rfl rfl rfl ?_
      refine GL.v Wpt ?_
      refine GL.nil ?_
      refine GE.seq ?_
      refine GC.cond_true rfl ?_
      refine GC.seq ?_
      refine GC.region ?_
      refine GL.v Wag ?_
      refine GL.nil ?_
      refine GE.seq ?_
      refine GC.ret ?_
      refine GE.block_ret ?_
      refine GE.seq_ret ?_
      refine GE.loop_ret ?_
      refine GE.block_ret ?_
      refine GE.seq_ret ?_
      -- returns, path Tt
      refine GE.ret_tmp (L' := L) (.inl rfl) rfl rfl Wsb ?_
      exact ⟨by rw [wrB_no1 hil h2], rfl⟩
    · -- Tf
      refine GL.want rfl rfl ?_
      refine GL.v Wmv ?_
      refine GL.want rfl rfl ?_
      refine GL.v Wmv ?_
      refine GL.want rfl rfl ?_
      refine GL.v (by exact EvP.r (Ev.cut_to rfl rfl Wik (by omega))) ?_
      refine GL.want rfl rfl ?_
      refine GL.v Wmv ?_
      refine GL.want rfl rfl ?_
      refine GL.callF rfl rfl (Tr.lenL (ns.take i) htl.symm (Contains_spec _ _ _ _ (ns.take i) ((hX.take i).imp Wim) (by omega) _)) ?_
      refine GL.v Wpf ?_
      refine GL.nil ?_
      refine GE.seq ?_
      refine GC.ifs (fun h3 => ?_) (fun h3 => ?_)
      · -- TfT
        refine GC.seq ?_
        refine GC.region ?_
        refine GL.v Wag ?_
        refine GL.nil ?_
        refine GE.seq ?_
        refine GC.ret ?_
        refine GE.block_ret ?_
        refine GE.seq_ret ?_
        refine GE.loop_ret ?_
        refine GE.block_ret ?_
        refine GE.seq_ret ?_
        -- returns, path TfT
        refine GE.ret_tmp (L' := L) (.inl rfl) rfl rfl Wsb ?_
        exact ⟨by rw [wrB_no2 hil h3], rfl⟩
      · -- TfF
        refine GC.skip ?_
        refine GE.block ?_
        refine GE.seq ?_
        refine GC.region ?_
        refine GL.v Wad ?_
        refine GL.v Wmv ?_
        refine GL.nil ?_
        -- round of loop 1, path TfF
        refine GE.round (i + 1) ⟨by omega, fun j h hj => ?_⟩ (by omega) Wkp Wsb
        by_cases e : j = i
        · subst e; exact ⟨h2, h3⟩
        · exact hok j (by omega) hj
  · -- F
    refine GC.exit ?_
    refine GE.seq_exit ?_
    refine GE.loop_exit ?_
    refine GE.block_exit ?_
    refine GE.seq ?_
    refine GC.seq ?_
    refine GC.region ?_
    refine GL.v Wag ?_
    refine GL.nil ?_
    refine GE.seq ?_
    refine GC.ret ?_
    -- returns, path F
    refine GE.ret_tmp (L' := L) (.inl rfl) rfl rfl Wsb ?_
    exact ⟨by rw [wrB_up fun j hj => hok j (by omega) hj], rfl⟩
theorem MayRun11_spec (w0 : World) (L : List Asn) (g h : Nat) (A : Option Addr) (c : Nat) (ms : List NdM) (hG : RdG w0 L A c ms) (hV : ValidG (gr ms)) (i : Nat) (hi : i < ms.length) (hbg : BlkRd w0 L g 25 [.slice A ms.length c]) (hbn : BlkRd w0 L h 3 [.int .i64 i]) (n : Nat) (hn : n < ms.length) :
    Tr Try.prog 99 #[.int .i64 n, .pointer (some ⟨g, 0, none⟩), .pointer (some ⟨h, 0, none⟩)] w0 L (fun v L' => v = .bool (reachB (gr ms) n i) ∧ L' = L) := by
  have hrl := reachL_length (gr ms) n
  rw [gr_length] at hrl
  refine Tr.enter (args := [.int .i64 n, .pointer (some ⟨g, 0, none⟩), .pointer (some ⟨h, 0, none⟩)]) Try.func99 Try.ntmps99 rfl rfl ?_
  refine GC.seq ?_
  refine GC.region ?_
  refine GL.v Wag ?_
  refine GL.nil ?_
  refine GE.seq ?_
  refine GC.seq ?_
  refine GC.region_any #[false, false, true, false, false, false, false] mixed ?_
  refine GA.read 0 #[false, true, false, true, false, false, false] rfl (by exact Wlba) rfl rfl (by kernel_rfl) rfl (by kernel_rfl) (by kernel_rfl) (fun _ _ _ h => h) ?_
  refine GA.take 1 #[true, false, false, true, false, false, false] rfl (by exact Ev.move rfl) rfl rfl (by kernel_rfl) rfl (by kernel_rfl) (by kernel_rfl) (fun _ _ _ h => h) ?_
  refine GA.read 3 #[true, true, true, false, false, false, false] rfl (by exact Wlb) rfl rfl (by kernel_rfl) rfl (by kernel_rfl) (by kernel_rfl) (fun _ _ _ h => h) ?_
  refine GA.branch (rs := [2]) (JOk.live (by exact Wlb) (JOk.live (by exact Wlba) JOk.nil)) (by kernel_rfl) (by simp) ?_
  refine GAs.cons rfl ?_ ?_
  · --  op 2
    refine GL.call rfl rfl (reach_spec _ _ _ _ _ (by first | assumption | exact RdG.imp (by assumption) Wim | exact RdG.of_pick Wpk Wpk) hV n hn) ?_
    rintro _ _ ⟨B, d, rfl, rfl⟩
    refine GL.nil ?_
    refine GE.any ?_
    refine GA.read 4 #[true, true, true, true, false, false, false] rfl (by exact Wix) rfl rfl (by kernel_rfl) rfl (by kernel_rfl) (by kernel_rfl) (fun _ _ _ h => h) ?_
    refine GA.read 5 #[true, true, true, true, true, false, false] rfl (by exact Wle) rfl rfl (by kernel_rfl) rfl (by kernel_rfl) (by kernel_rfl) (fun _ _ _ h => h) ?_
    refine GA.take 6 #[true, true, true, true, true, true, false] rfl (by exact Ev.assign rfl) rfl rfl (by kernel_rfl) rfl (by kernel_rfl) (by kernel_rfl) (fun _ _ _ h => h) ?_
    refine GA.done (JOk.live (by exact Wle) (JOk.live (by exact Wix) (JOk.live (by exact Wlb) (JOk.dead (by kernel_rfl) JOk.nil)))) (by kernel_rfl) ?_
    refine GE.seq ?_
    refine GC.ret ?_
    -- returns, path 
    refine GE.ret_tmp (L' := L) (.inl rfl) rfl rfl Wsb ?_
    exact ⟨by rw [reachL_get]; rfl, rfl⟩
  exact GAs.nil
theorem MayRun1_spec (w0 : World) (L : List Asn) (g h : Nat) (A : Option Addr) (c : Nat) (ms : List NdM) (hG : RdG w0 L A c ms) (hV : ValidG (gr ms)) (B : Option Addr) (d : Nat) (ns : List Int) (hX : Rd w0 L intE B d ns) (hx : ns.length ≤ 1100000) (hw : wrB (gr ms) ns = true) (hb1 : BlkRd w0 L g 25 [.slice A ms.length c]) (hb2 : BlkRd w0 L h 26 [.slice B ns.length d]) (i : Nat) (hi : i < ms.length) :
    Tr Try.prog 98 #[.int .i64 i, .pointer (some ⟨g, 0, none⟩), .pointer (some ⟨h, 0, none⟩)] w0 L (fun v L' => v = .bool (mayB (gr ms) ns i) ∧ L' = L) := by
  have hN := hG.nodes
  have hki : kindAt (gr ms) i = ms[i].kind := by rw [kindAt_gr (k := i) (by omega)]; rfl
  refine Tr.enter (args := [.int .i64 i, .pointer (some ⟨g, 0, none⟩), .pointer (some ⟨h, 0, none⟩)]) Try.func98 Try.ntmps98 rfl rfl ?_
  refine GC.seq ?_
  refine GC.region ?_
  refine GL.box_one rfl rfl rfl ?_; intro g3
  refine GL.v Wag ?_
  refine GL.nil ?_
  refine GE.seq ?_
  refine GC.seq ?_
  refine GC.region ?_
  refine GL.v Wfa ?_
  refine GL.v Wlb ?_
  refine GL.v Wlb ?_
  refine GL.v Wix ?_
  refine GL.v Wfa ?_
  refine GL.v Wlef ?_
  refine GL.v Wnq ?_
  refine GL.v Wmv ?_
  refine GL.gs (fun h1 => ?_) (fun h1 => ?_)
  · -- t
    refine GL.want rfl rfl ?_
    refine GL.v Wlb ?_
    refine GL.want rfl rfl ?_
    refine GL.v (by exact EvP.r (Ev.makeFunc rfl rfl)) ?_
    refine GL.want rfl rfl ?_
    refine GL.callF rfl rfl (ContainsFunc_spec _ _ _ _ ns (hX.imp Wim) hx 99 #[] #[.pointer (some ⟨g, 0, none⟩), .pointer (some ⟨g3, 0, none⟩)] (fun n => reachB (gr ms) n.toNat i) (fun X hXi n hn => by have hlow := (wr_low hw n hn).1; rw [gr_length] at hlow; have := MayRun11_spec w0 X g g3 A c ms (hG.imp (hXi.trans Wim)) hV i hi (hb1.imp (hXi.trans Wim)) ((BlkRd.of_pick Wpk).imp hXi) n.toNat (by omega); rw [show ((n.toNat : Nat) : Int) = n by omega] at this; exact this)) ?_
    refine GL.v Wpt ?_
    refine GL.v Wag ?_
    refine GL.nil ?_
    refine GE.seq ?_
    refine GC.ret ?_
    -- returns, path t
    refine GE.ret_tmp (L' := L) (.inl rfl) rfl rfl Wsb ?_
    exact ⟨by rw [mayB, hki, decide_eq_false h1, fromB]; rfl, rfl⟩
  · -- f
    refine GL.unwant rfl rfl rfl rfl ?_
    refine GL.unwant rfl rfl rfl rfl ?_
    refine GL.unwant rfl rfl rfl rfl ?_
    refine GL.v Wpf ?_
    refine GL.v Wag ?_
    refine GL.nil ?_
    refine GE.seq ?_
    refine GC.ret ?_
    -- returns, path f
    refine GE.ret_tmp (L' := L) (.inl rfl) rfl rfl Wsb ?_
    exact ⟨by rw [mayB, hki, decide_eq_true h1]; rfl, rfl⟩
theorem iMayRun_spec (w0 : World) (L : List Asn) (A : Option Addr) (c : Nat) (ms : List NdM) (hG : RdG w0 L A c ms) (B : Option Addr) (d : Nat) (ns : List Int) (hX : Rd w0 L intE B d ns) (hl : ms.length ≤ 1100000) (hx : ns.length ≤ 1100000) :
    Tr Try.prog 47 #[.agg #[.slice A ms.length c], .slice B ns.length d] w0 L (fun v L' => ∃ E f, v = .slice E (mayRunL (gr ms) ns).length f ∧ L' = row intE E f (mayRunL (gr ms) ns) :: L) := by
  refine Tr.enter (args := [.agg #[.slice A ms.length c], .slice B ns.length d]) Try.func47 Try.ntmps47 rfl rfl ?_
  refine GC.seq ?_
  refine GC.region ?_
  refine GL.box_agg rfl rfl ?_; intro g2
  refine GL.box_one rfl rfl rfl ?_; intro g3
  refine GL.v Wag ?_
  refine GL.nil ?_
  refine GE.seq ?_
  refine GC.seq ?_
  refine GC.seq ?_
  refine GC.region ?_
  refine GL.v Wlba ?_
  refine GL.callF rfl rfl (iValidGraph_spec _ _ _ _ _ (by first | assumption | exact RdG.imp (by assumption) Wim | exact RdG.of_pick Wpk Wpk) (by first | omega | exact SizeG.le (by assumption))) ?_
  refine GL.v Wnt ?_
  refine GL.v Wmv ?_
  refine GL.gs (fun h1 => ?_) (fun h1 => ?_)
  · -- t
    refine GL.unwant rfl rfl rfl rfl ?_
    refine GL.unwant rfl rfl rfl rfl ?_
    refine GL.unwant rfl rfl rfl rfl ?_
    refine GL.unwant rfl rfl rfl rfl ?_
    refine GL.v Wpt ?_
    refine GL.nil ?_
    refine GE.seq ?_
    refine GC.cond_true rfl ?_
    refine GC.seq ?_
    refine GC.region ?_
    refine GL.v Wag ?_
    refine GL.nil ?_
    refine GE.seq ?_
    refine GC.ret ?_
    refine GE.seq_ret ?_
    -- returns, path t
    refine GE.state (fun _ hs => hs.empty intE none) ?_
    refine GE.ret_tmp (L' := row intE none 0 [] :: L) (.inl rfl) rfl rfl Wsb ?_
    rw [mayRunL_no1 h1]
    exact ⟨none, 0, rfl, rfl⟩
  · -- f
    refine GL.want rfl rfl ?_
    refine GL.v Wlba ?_
    refine GL.want rfl rfl ?_
    refine GL.v Wlb ?_
    refine GL.want rfl rfl ?_
    refine GL.callF rfl rfl (cellsDiffer_spec _ _ _ _ _ (by first | assumption | exact RdG.imp (by assumption) Wim | exact RdG.of_pick Wpk Wpk) _ _ _ Wrd hl hx) ?_
    refine GL.want rfl rfl ?_
    refine GL.v Wnt ?_
    refine GL.v Wpf ?_
    refine GL.nil ?_
    refine GE.seq ?_
    refine GC.ifs (fun h2 => ?_) (fun h2 => ?_)
    · -- fT
      refine GC.seq ?_
      refine GC.region ?_
      refine GL.v Wag ?_
      refine GL.nil ?_
      refine GE.seq ?_
      refine GC.ret ?_
      refine GE.seq_ret ?_
      -- returns, path fT
      refine GE.state (fun _ hs => hs.empty intE none) ?_
      refine GE.ret_tmp (L' := row intE none 0 [] :: L) (.inl rfl) rfl rfl Wsb ?_
      rw [mayRunL_no2 h2]
      exact ⟨none, 0, rfl, rfl⟩
    · -- fF
      have hV := validG_iff.1 h1
      refine GC.skip ?_
      refine GE.seq ?_
      refine GC.seq ?_
      refine GC.region ?_
      refine GL.v Wlba ?_
      refine GL.v (by exact EvP.r (Ev.makeFunc rfl rfl)) ?_
      refine GL.call rfl rfl (which_spec w0 _ A ms.length c hl 98 #[] #[.pointer (some ⟨g2, 0, none⟩), .pointer (some ⟨g3, 0, none⟩)] (mayB (gr ms) ns) (fun X hXi i hi => MayRun1_spec w0 X g2 g3 A c ms (hG.imp (hXi.trans Wim)) hV B d ns (hX.imp (hXi.trans Wim)) hx h2 ((BlkRd.of_pick Wpk).imp hXi) ((BlkRd.of_pick Wpk).imp hXi) i hi)) ?_
      rintro _ _ ⟨F, rfl, rfl⟩
      refine GL.v Wag ?_
      refine GL.nil ?_
      refine GE.seq ?_
      refine GC.ret ?_
      -- returns, path fF
      refine GE.ret_tmp (L' := row intE F (whichL ms.length (mayB (gr ms) ns)).length (whichL ms.length (mayB (gr ms) ns)) :: L) (.inl rfl) rfl rfl Wsb ?_
      rw [mayRunL_yes h1 h2, gr_length]
      exact ⟨_, _, rfl, rfl⟩
theorem goodWrites_spec (w0 : World) (L : List Asn) (A : Option Addr) (c : Nat) (ms : List NdM) (hG : RdG w0 L A c ms) (hV : ValidG (gr ms)) (B : Option Addr) (d : Nat) (ns : List Int) (hX : Rd w0 L intE B d ns) (hx : ns.length ≤ 1100000) (D : Option Addr) (e : Nat) (hY : Rd w0 L intE D e (List.replicate ns.length 0)) :
    Tr Try.prog 100 #[.agg #[.slice A ms.length c], .slice B ns.length d, .slice D ns.length e] w0 L (fun v L' => v = .bool (wrB (gr ms) ns) ∧ L' = L) := by
  refine Tr.rd_cap hX fun hd1 hd2 => ?_
  have hl10 : ms.length ≤ 10 := by have := hV.1; simpa using this
  have hY2 : Rd w0 L intE D e (List.replicate ns.length 0) := hY
  refine Tr.enter (args := [.agg #[.slice A ms.length c], .slice B ns.length d, .slice D ns.length e]) Try.func100 Try.ntmps100 rfl rfl ?_
  refine GC.seq ?_
  refine GC.region ?_
  refine GL.box_agg rfl rfl ?_; intro g3
  refine GL.v Wag ?_
  refine GL.nil ?_
  refine GE.seq ?_
  refine GC.seq ?_
  refine GC.seq ?_
  refine GC.region ?_
  refine GL.v Wmv ?_
  refine GL.v Wln ?_
  refine GL.v Wmv ?_
  refine GL.v Wln ?_
  refine GL.v Wnq ?_
  refine GL.v Wmv ?_
  refine GL.gs (fun h1 => ?_) (fun h1 => ?_)
  · -- t
    exact absurd rfl h1
  · -- f
    refine GL.want rfl rfl ?_
    refine GL.v Wmv ?_
    refine GL.want rfl rfl ?_
    refine GL.v Wln ?_
    refine GL.want rfl rfl ?_
    refine GL.v Wgt ?_
    refine GL.v Wpf ?_
    refine GL.v Wmv ?_
    refine GL.gs (fun h2 => ?_) (fun h2 => ?_)
    · -- ft
      refine GL.unwant rfl rfl rfl rfl ?_
      refine GL.unwant rfl rfl rfl rfl ?_
      refine GL.unwant rfl rfl rfl rfl ?_
      refine GL.v Wpt ?_
      refine GL.nil ?_
      refine GE.seq ?_
      refine GC.cond_true rfl ?_
      refine GC.seq ?_
      refine GC.region ?_
      refine GL.v Wag ?_
      refine GL.nil ?_
      refine GE.seq ?_
      refine GC.ret ?_
      refine GE.seq_ret ?_
      -- returns, path ft
      refine GE.ret_tmp (L' := L) (.inl rfl) rfl rfl Wsb ?_
      exact ⟨by
      cases hw : wrB (gr ms) ns with
      | false => rfl
      | true => have := wr_length hw; rw [gr_length] at this; omega, rfl⟩
    · -- ff
      refine GL.want rfl rfl ?_
      refine GL.v Wmv ?_
      refine GL.want rfl rfl ?_
      refine GL.callF rfl rfl (Tr.lenL3 (List.replicate ns.length 0) (by simp) (allIn_spec _ _ _ _ (List.replicate ns.length 0) (hY.imp Wim) _ _ (by simp; omega))) ?_
      refine GL.want rfl rfl ?_
      refine GL.v Wnt ?_
      refine GL.v Wpf ?_
      refine GL.nil ?_
      refine GE.seq ?_
      refine GC.ifs (fun h3 => ?_) (fun h3 => ?_)
      · -- ffT
        have hall : allB (List.replicate ns.length 0) 0 999 = true := allB_iff.2 (fun x hx => by rw [List.eq_of_mem_replicate hx]; exact ⟨by decide, by decide⟩)
        rw [hall] at h3
        cases h3
      · -- ffF
        refine GC.skip ?_
        refine GE.seq ?_
        refine GC.seq ?_
        refine GC.seq ?_
        refine GC.region ?_
        refine GL.v Wag ?_
        refine GL.nil ?_
        refine GE.seq ?_
        refine GC.block ?_
        -- loop 1: carried slots [7]
        refine GC.loopK (α := Nat) (fun i => i ≤ ns.length ∧ ∀ j (h : j < i) (hj : j < ns.length), cellB (gr ms) ns[j] = true ∧ (ns.take j).contains ns[j] = false) (fun i => [(7, .int .i64 i)]) [(1, _), (3, _)] (fun i => blk g3 25 [.slice A ms.length c] :: L) (fun i => ns.length - i) 0 Wkp Wsb ⟨Nat.zero_le _, fun _ h => by omega⟩ ?_
        rintro i ⟨hi, hok⟩
        refine GC.seq ?_
        refine GC.seq ?_
        refine GC.region ?_
        refine GL.v Wmv ?_
        refine GL.v Wmv ?_
        refine GL.v Wln ?_
        refine GL.v Wls ?_
        refine GL.nil ?_
        refine GE.seq ?_
        refine GC.ifs (fun h4 => ?_) (fun h4 => ?_)
        · -- ffFT
          have hil : i < ns.length := by omega
          have htl : (ns.take i).length = i := by rw [List.length_take]; omega
          refine GC.skip ?_
          refine GE.seq ?_
          refine GC.seq ?_
          refine GC.block ?_
          refine GC.seq ?_
          refine GC.region_any #[false, false, false, false, false, true, false, false, false, false, false, false, false, false, false, true, false, false] mixed ?_
          refine GA.read 0 #[false, true, true, true, true, false, false, false, false, false, false, false, false, false, false, false, false, false] rfl (by exact Wlba) rfl rfl (by kernel_rfl) rfl (by kernel_rfl) (by kernel_rfl) (fun _ _ _ h => h) ?_
          refine GA.take 1 #[true, false, true, false, false, false, false, false, false, false, false, false, false, false, false, false, false, false] rfl (by exact Ev.move rfl) rfl rfl (by kernel_rfl) rfl (by kernel_rfl) (by kernel_rfl) (fun _ _ _ h => h) ?_
          refine GA.take 2 #[true, true, false, false, false, false, false, false, false, false, false, false, false, false, false, false, false, false] rfl (by exact Ev.move rfl) rfl rfl (by kernel_rfl) rfl (by kernel_rfl) (by kernel_rfl) (fun _ _ _ h => h) ?_
          refine GA.read 3 #[true, true, true, false, false, false, false, false, false, false, false, false, false, false, false, false, false, false] rfl (by exact Wix) rfl rfl (by kernel_rfl) rfl (by kernel_rfl) (by kernel_rfl) (fun _ _ _ h => h) ?_
          refine GA.read 4 #[true, true, true, true, false, false, false, false, false, false, false, false, false, false, false, false, false, false] rfl (by exact Wle) rfl rfl (by kernel_rfl) rfl (by kernel_rfl) (by kernel_rfl) (fun _ _ _ h => h) ?_
          refine GA.branch (rs := [5]) (JOk.live (by exact Wle) (JOk.live (by exact Wix) (JOk.live (by exact Wlba) JOk.nil))) (by kernel_rfl) (by simp) ?_
          refine GAs.cons rfl ?_ ?_
          · -- ffFT op 5
            refine GL.callF rfl rfl (isCell_spec _ _ _ _ _ (by first | assumption | exact RdG.imp (by assumption) Wim | exact RdG.of_pick Wpk Wpk) _ (by omega)) ?_
            refine GL.nil ?_
            refine GE.any ?_
            refine GA.take 6 #[true, true, true, true, true, true, false, false, false, false, false, false, false, false, false, false, false, false] rfl (by exact Ev.not rfl) rfl rfl (by kernel_rfl) rfl (by kernel_rfl) (by kernel_rfl) (fun _ _ _ h => h) ?_
            refine GA.take 7 #[true, true, true, true, true, true, true, false, false, false, false, false, false, false, false, false, false, false] rfl (by exact Ev.move rfl) rfl rfl (by kernel_rfl) rfl (by kernel_rfl) (by kernel_rfl) (fun _ _ _ h => h) ?_
            first | refine GA.split_dec (d := 36) rfl (fun h5 => ?_) (fun h5 => ?_) | refine GA.split_ndec (d := 36) rfl (fun h5 => ?_) (fun h5 => ?_) | refine GA.split (d := 36) rfl (fun h5 => ?_) (fun h5 => ?_)
            · -- ffFTt
              refine GA.unwant 8 #[true, true, true, true, true, true, true, true, false, true, false, true, true, true, true, false, false, false] rfl rfl rfl rfl rfl (by kernel_rfl) rfl (by kernel_rfl) (by kernel_rfl) (fun _ _ _ h => h) ?_
              refine GA.unwant 9 #[true, true, true, true, true, true, true, true, true, false, false, true, true, true, true, false, false, false] rfl rfl rfl rfl rfl (by kernel_rfl) rfl (by kernel_rfl) (by kernel_rfl) (fun _ _ _ h => h) ?_
              refine GA.unwant 10 #[true, true, true, true, true, true, true, true, true, true, false, true, true, true, true, false, false, false] rfl rfl rfl rfl rfl (by kernel_rfl) rfl (by kernel_rfl) (by kernel_rfl) (fun _ _ _ h => h) ?_
              refine GA.unwant 11 #[true, true, true, true, true, true, true, true, true, true, true, false, true, false, false, false, false, false] rfl rfl rfl rfl rfl (by kernel_rfl) rfl (by kernel_rfl) (by kernel_rfl) (fun _ _ _ h => h) ?_
              refine GA.unwant 12 #[true, true, true, true, true, true, true, true, true, true, true, true, false, false, false, false, false, false] rfl rfl rfl rfl rfl (by kernel_rfl) rfl (by kernel_rfl) (by kernel_rfl) (fun _ _ _ h => h) ?_
              refine GA.unwant 13 #[true, true, true, true, true, true, true, true, true, true, true, true, true, false, false, false, false, false] rfl rfl rfl rfl rfl (by kernel_rfl) rfl (by kernel_rfl) (by kernel_rfl) (fun _ _ _ h => h) ?_
              refine GA.unwant 14 #[true, true, true, true, true, true, true, true, true, true, true, true, true, true, false, false, false, false] rfl rfl rfl rfl rfl (by kernel_rfl) rfl (by kernel_rfl) (by kernel_rfl) (fun _ _ _ h => h) ?_
              refine GA.branch (rs := [15]) (JOk.dead (by kernel_rfl) (JOk.dead (by kernel_rfl) (JOk.dead (by kernel_rfl) JOk.nil))) (by kernel_rfl) (by simp) ?_
              refine GAs.cons rfl ?_ ?_
              · -- ffFTt op 15
                refine GL.unwant rfl rfl rfl rfl ?_
                refine GL.nil ?_
                refine GE.any ?_
                refine GA.unwant 16 #[true, true, true, true, true, true, true, true, true, true, true, true, true, true, true, true, false, false] rfl rfl rfl rfl rfl (by kernel_rfl) rfl (by kernel_rfl) (by kernel_rfl) (fun _ _ _ h => h) ?_
                refine GA.take 17 #[true, true, true, true, true, true, true, true, true, true, true, true, true, true, true, true, true, false] rfl (by exact Ev.pick_true rfl rfl) rfl rfl (by kernel_rfl) rfl (by kernel_rfl) (by kernel_rfl) (fun _ _ _ h => h) ?_
                refine GA.done (JOk.dead (by kernel_rfl) (JOk.dead (by kernel_rfl) (JOk.dead (by kernel_rfl) JOk.nil))) (by kernel_rfl) ?_
                refine GE.seq ?_
                refine GC.cond_true rfl ?_
                refine GC.seq ?_
                refine GC.region ?_
                refine GL.v Wag ?_
                refine GL.nil ?_
                refine GE.seq ?_
                refine GC.ret ?_
                refine GE.block_ret ?_
                refine GE.seq_ret ?_
                refine GE.loop_ret ?_
                refine GE.block_ret ?_
                refine GE.seq_ret ?_
                -- returns, path ffFTt
                refine GE.ret_tmp (L' := L) (.inl rfl) rfl rfl Wsb ?_
                exact ⟨by rw [wrB_no1 hil (by simpa using h5)], rfl⟩
              exact GAs.nil
            · -- ffFTf
              refine GA.take_want 8 #[true, true, true, true, true, true, true, true, false, true, false, true, true, true, true, false, false, false] rfl rfl rfl (by exact Ev.move rfl) rfl (by kernel_rfl) rfl (by kernel_rfl) (by kernel_rfl) (fun _ _ _ h => h) ?_
              refine GA.take_want 9 #[true, true, true, true, true, true, true, true, true, false, false, true, true, true, true, false, false, false] rfl rfl rfl (by exact Ev.move rfl) rfl (by kernel_rfl) rfl (by kernel_rfl) (by kernel_rfl) (fun _ _ _ h => h) ?_
              refine GA.take_want 10 #[true, true, true, true, true, true, true, true, true, true, false, true, true, true, true, false, false, false] rfl rfl rfl (by exact Ev.cut_to rfl rfl Wik (by omega)) rfl (by kernel_rfl) rfl (by kernel_rfl) (by kernel_rfl) (fun _ _ _ h => h) ?_
              refine GA.take_want 11 #[true, true, true, true, true, true, true, true, true, true, true, false, true, false, false, false, false, false] rfl rfl rfl (by exact Ev.move rfl) rfl (by kernel_rfl) rfl (by kernel_rfl) (by kernel_rfl) (fun _ _ _ h => h) ?_
              refine GA.take_want 12 #[true, true, true, true, true, true, true, true, true, true, true, true, false, false, false, false, false, false] rfl rfl rfl (by exact Ev.move rfl) rfl (by kernel_rfl) rfl (by kernel_rfl) (by kernel_rfl) (fun _ _ _ h => h) ?_
              refine GA.read_want 13 #[true, true, true, true, true, true, true, true, true, true, true, true, true, false, false, false, false, false] rfl rfl rfl (by exact Wix) rfl (by kernel_rfl) rfl (by kernel_rfl) (by kernel_rfl) (fun _ _ _ h => h) ?_
              refine GA.read_want 14 #[true, true, true, true, true, true, true, true, true, true, true, true, true, true, false, false, false, false] rfl rfl rfl (by exact Wle) rfl (by kernel_rfl) rfl (by kernel_rfl) (by kernel_rfl) (fun _ _ _ h => h) ?_
              refine GA.branch (rs := [15]) (JOk.live (by exact Wle) (JOk.live (by exact Wix) (JOk.dead (by kernel_rfl) (JOk.dead (by kernel_rfl) (JOk.dead (by kernel_rfl) JOk.nil))))) (by kernel_rfl) (by simp) ?_
              refine GAs.cons rfl ?_ ?_
              · -- ffFTf op 15
                refine GL.want rfl rfl ?_
                refine GL.call rfl rfl (Tr.lenL (ns.take i) htl.symm (placeIn_spec _ _ _ _ (ns.take i) ((hX.take i).imp Wim) (by omega) _)) ?_
                rintro _ _ ⟨k44, rfl, hk44, e44⟩
                rw [e44]; clear e44
                refine GL.nil ?_
                refine GE.any ?_
                refine GA.take_want 16 #[true, true, true, true, true, true, true, true, true, true, true, true, true, true, true, true, false, false] rfl rfl rfl (by exact Ev.geq rfl rfl) rfl (by kernel_rfl) rfl (by kernel_rfl) (by kernel_rfl) (fun _ _ _ h => h) ?_
                refine GA.take 17 #[true, true, true, true, true, true, true, true, true, true, true, true, true, true, true, true, true, false] rfl (by exact Ev.pick_false rfl rfl) rfl rfl (by kernel_rfl) rfl (by kernel_rfl) (by kernel_rfl) (fun _ _ _ h => h) ?_
                refine GA.done (JOk.dead (by kernel_rfl) (JOk.dead (by kernel_rfl) (JOk.dead (by kernel_rfl) (JOk.dead (by kernel_rfl) (JOk.dead (by kernel_rfl) JOk.nil))))) (by kernel_rfl) ?_
                refine GE.seq ?_
                refine GC.ifs (fun h6 => ?_) (fun h6 => ?_)
                · -- ffFTfT
                  refine GC.seq ?_
                  refine GC.region ?_
                  refine GL.v Wag ?_
                  refine GL.nil ?_
                  refine GE.seq ?_
                  refine GC.ret ?_
                  refine GE.block_ret ?_
                  refine GE.seq_ret ?_
                  refine GE.loop_ret ?_
                  refine GE.block_ret ?_
                  refine GE.seq_ret ?_
                  -- returns, path ffFTfT
                  refine GE.ret_tmp (L' := L) (.inl rfl) rfl rfl Wsb ?_
                  have hc : (ns.take i).contains ns[i] = true := by
                    cases hc : (ns.take i).contains ns[i] with
                    | true => rfl
                    | false => have := hk44.2 hc; omega
                  exact ⟨by rw [wrB_no2 hil hc], rfl⟩
                · -- ffFTfF
                  refine GC.skip ?_
                  refine GE.block ?_
                  refine GE.seq ?_
                  refine GC.region ?_
                  refine GL.v Wmv ?_
                  refine GL.v Wad ?_
                  refine GL.v Wag ?_
                  refine GL.nil ?_
                  -- round of loop 1, path ffFTfF
                  have hc := hk44.1 (by omega)
                  refine GE.round (i + 1) ⟨by omega, fun j h hj => ?_⟩ (by omega) Wkp Wsb
                  by_cases e : j = i
                  · subst e; exact ⟨by simpa using h5, hc⟩
                  · exact hok j (by omega) hj
              exact GAs.nil
          exact GAs.nil
        · -- ffFF
          refine GC.exit ?_
          refine GE.seq_exit ?_
          refine GE.loop_exit ?_
          refine GE.block_exit ?_
          refine GE.seq ?_
          refine GC.seq ?_
          refine GC.region ?_
          refine GL.v Wag ?_
          refine GL.nil ?_
          refine GE.seq ?_
          refine GC.ret ?_
          -- returns, path ffFF
          refine GE.ret_tmp (L' := L) (.inl rfl) rfl rfl Wsb ?_
          exact ⟨by rw [wrB_up fun j hj => hok j (by omega) hj], rfl⟩
theorem sMayRun_spec (w0 : World) (L : List Asn) (A : Option Addr) (c : Nat) (ms : List NdM) (hG : RdG w0 L A c ms) (B : Option Addr) (d : Nat) (ns : List Int) (hX : Rd w0 L intE B d ns) (hS : SizeG ms) (hx : ns.length ≤ 1100000) :
    Tr Try.prog 48 #[.agg #[.slice A ms.length c], .slice B ns.length d] w0 L (fun v L' => ∃ E f, v = .slice E (mayRunL (gr ms) ns).length f ∧ L' = row intE E f (mayRunL (gr ms) ns) :: L) := by
  have hSl := hS.1
  have hN := hG.nodes
  refine Tr.enter (args := [.agg #[.slice A ms.length c], .slice B ns.length d]) Try.func48 Try.ntmps48 rfl rfl ?_
  refine GC.seq ?_
  refine GC.region ?_
  refine GL.box_agg rfl rfl ?_; intro g2
  refine GL.v Wag ?_
  refine GL.nil ?_
  refine GE.seq ?_
  refine GC.seq ?_
  refine GC.seq ?_
  refine GC.region_any #[false, true, false, false, false, false, false, false, true, true, false, false] mixed ?_
  refine GA.read 0 #[false, false, false, false, false, false, false, false, false, false, false, false] rfl (by exact Wlba) rfl rfl (by kernel_rfl) rfl (by kernel_rfl) (by kernel_rfl) (fun _ _ _ h => h) ?_
  refine GA.branch (rs := [1]) (JOk.live (by exact Wlba) JOk.nil) (by kernel_rfl) (by simp) ?_
  refine GAs.cons rfl ?_ ?_
  · --  op 1
    refine GL.callF rfl rfl (svalidGraph_spec _ _ _ _ _ (by first | assumption | exact RdG.imp (by assumption) Wim | exact RdG.of_pick Wpk Wpk) (by assumption)) ?_
    refine GL.nil ?_
    refine GE.any ?_
    refine GA.take 2 #[true, true, false, false, false, false, false, false, false, false, false, false] rfl (by exact Ev.not rfl) rfl rfl (by kernel_rfl) rfl (by kernel_rfl) (by kernel_rfl) (fun _ _ _ h => h) ?_
    refine GA.take 3 #[true, true, true, false, false, false, false, false, false, false, false, false] rfl (by exact Ev.move rfl) rfl rfl (by kernel_rfl) rfl (by kernel_rfl) (by kernel_rfl) (fun _ _ _ h => h) ?_
    first | refine GA.split_dec (d := 11) rfl (fun h1 => ?_) (fun h1 => ?_) | refine GA.split_ndec (d := 11) rfl (fun h1 => ?_) (fun h1 => ?_) | refine GA.split (d := 11) rfl (fun h1 => ?_) (fun h1 => ?_)
    · -- t
      refine GA.unwant 4 #[true, true, true, true, false, true, true, true, true, false, false, false] rfl rfl rfl rfl rfl (by kernel_rfl) rfl (by kernel_rfl) (by kernel_rfl) (fun _ _ _ h => h) ?_
      refine GA.unwant 5 #[true, true, true, true, true, false, true, true, true, false, false, false] rfl rfl rfl rfl rfl (by kernel_rfl) rfl (by kernel_rfl) (by kernel_rfl) (fun _ _ _ h => h) ?_
      refine GA.unwant 6 #[true, true, true, true, true, true, false, false, false, false, false, false] rfl rfl rfl rfl rfl (by kernel_rfl) rfl (by kernel_rfl) (by kernel_rfl) (fun _ _ _ h => h) ?_
      refine GA.unwant 7 #[true, true, true, true, true, true, true, false, false, false, false, false] rfl rfl rfl rfl rfl (by kernel_rfl) rfl (by kernel_rfl) (by kernel_rfl) (fun _ _ _ h => h) ?_
      refine GA.branch (rs := [8]) (JOk.dead (by kernel_rfl) JOk.nil) (by kernel_rfl) (by simp) ?_
      refine GAs.cons rfl ?_ ?_
      · -- t op 8
        refine GL.unwant rfl rfl rfl rfl ?_
        refine GL.nil ?_
        refine GE.any ?_
        refine GA.branch (rs := [9]) (JOk.dead (by kernel_rfl) JOk.nil) (by kernel_rfl) (by simp) ?_
        refine GAs.cons rfl ?_ ?_
        · -- t op 9
          refine GL.unwant rfl rfl rfl rfl ?_
          refine GL.nil ?_
          refine GE.any ?_
          refine GA.unwant 10 #[true, true, true, true, true, true, true, true, true, true, false, false] rfl rfl rfl rfl rfl (by kernel_rfl) rfl (by kernel_rfl) (by kernel_rfl) (fun _ _ _ h => h) ?_
          refine GA.take 11 #[true, true, true, true, true, true, true, true, true, true, true, false] rfl (by exact Ev.pick_true rfl rfl) rfl rfl (by kernel_rfl) rfl (by kernel_rfl) (by kernel_rfl) (fun _ _ _ h => h) ?_
          refine GA.done (JOk.dead (by kernel_rfl) JOk.nil) (by kernel_rfl) ?_
          refine GE.seq ?_
          refine GC.cond_true rfl ?_
          refine GC.seq ?_
          refine GC.region ?_
          refine GL.v Wag ?_
          refine GL.nil ?_
          refine GE.seq ?_
          refine GC.ret ?_
          refine GE.seq_ret ?_
          -- returns, path t
          refine GE.state (fun _ hs => hs.empty intE none) ?_
          refine GE.ret_tmp (L' := row intE none 0 [] :: L) (.inl rfl) rfl rfl Wsb ?_
          rw [mayRunL_no1 (by simpa using h1)]
          exact ⟨none, 0, rfl, rfl⟩
        exact GAs.nil
      exact GAs.nil
    · -- f
      refine GA.read_want 4 #[true, true, true, true, false, true, true, true, true, false, false, false] rfl rfl rfl (by exact Wlba) rfl (by kernel_rfl) rfl (by kernel_rfl) (by kernel_rfl) (fun _ _ _ h => h) ?_
      refine GA.take_want 5 #[true, true, true, true, true, false, true, true, true, false, false, false] rfl rfl rfl (by exact Ev.move rfl) rfl (by kernel_rfl) rfl (by kernel_rfl) (by kernel_rfl) (fun _ _ _ h => h) ?_
      refine GA.take_want 6 #[true, true, true, true, true, true, false, false, false, false, false, false] rfl rfl rfl (by exact Ev.move rfl) rfl (by kernel_rfl) rfl (by kernel_rfl) (by kernel_rfl) (fun _ _ _ h => h) ?_
      refine GA.take_want 7 #[true, true, true, true, true, true, true, false, false, false, false, false] rfl rfl rfl (by exact Ev.len rfl) rfl (by kernel_rfl) rfl (by kernel_rfl) (by kernel_rfl) (fun _ _ _ h => h) ?_
      refine GA.branch (rs := [8]) (JOk.live (by exact Wlba) (JOk.dead (by kernel_rfl) JOk.nil)) (by kernel_rfl) (by simp) ?_
      refine GAs.cons rfl ?_ ?_
      · -- f op 8
        refine GL.want rfl rfl ?_
        refine GL.make rfl rfl Wik Wik (by omega) (by omega) rfl ?_; intro g16
        refine GL.nil ?_
        refine GE.any ?_
        refine GA.branch (rs := [9]) (JOk.live (by exact Wlba) (JOk.dead (by kernel_rfl) JOk.nil)) (by kernel_rfl) (by simp) ?_
        refine GAs.cons rfl ?_ ?_
        · -- f op 9
          refine GL.want rfl rfl ?_
          refine GL.callF rfl rfl (goodWrites_spec _ _ _ _ _ (by first | assumption | exact RdG.imp (by assumption) Wim | exact RdG.of_pick Wpk Wpk) (validG_iff.1 (by simpa using h1)) _ _ _ Wrd hx _ _ Wrd) ?_
          refine GL.nil ?_
          refine GE.any ?_
          refine GA.take_want 10 #[true, true, true, true, true, true, true, true, true, true, false, false] rfl rfl rfl (by exact Ev.not rfl) rfl (by kernel_rfl) rfl (by kernel_rfl) (by kernel_rfl) (fun _ _ _ h => h) ?_
          refine GA.take 11 #[true, true, true, true, true, true, true, true, true, true, true, false] rfl (by exact Ev.pick_false rfl rfl) rfl rfl (by kernel_rfl) rfl (by kernel_rfl) (by kernel_rfl) (fun _ _ _ h => h) ?_
          refine GA.done (JOk.dead (by kernel_rfl) (JOk.dead (by kernel_rfl) JOk.nil)) (by kernel_rfl) ?_
          refine GE.seq ?_
          refine GC.ifs (fun h2 => ?_) (fun h2 => ?_)
          · -- fT
            refine GC.seq ?_
            refine GC.region ?_
            refine GL.v Wag ?_
            refine GL.nil ?_
            refine GE.seq ?_
            refine GC.ret ?_
            refine GE.seq_ret ?_
            -- returns, path fT
            refine GE.state (fun _ hs => hs.empty intE none) ?_
            refine GE.ret_tmp (L' := row intE none 0 [] :: L) (.inl rfl) rfl rfl Wsb ?_
            rw [mayRunL_no2 h2]
            exact ⟨none, 0, rfl, rfl⟩
          · -- fF
            have h1 : validG (gr ms) = true := by simpa using h1
            have hV := validG_iff.1 h1
            have hl10 : ms.length ≤ 10 := by have := hV.1; simpa using this
            refine GC.skip ?_
            refine GE.seq ?_
            refine GC.seq ?_
            refine GC.region ?_
            refine GL.buildSlice rfl (by first | exact bsInt0 | exact bsInt1 _ | exact bsInt2 _ _ | exact bsInt3 _ _ _ | exact bsInt4 _ _ _ _ | exact bsInt5 _ _ _ _ _ | exact bsInt6 _ _ _ _ _ _ | exact bsInt7 _ _ _ _ _ _ _ | exact bsInt8 _ _ _ _ _ _ _ _ | exact bsInt9 _ _ _ _ _ _ _ _ _ | exact bsInt10 _ _ _ _ _ _ _ _ _ _ | exact bsPart0 | exact bsPart1 ⟨_, _, _, _, _⟩ | exact bsNode1 ⟨_, _, _, _⟩ | exact bsPtr3 _ _ _ | exact bsSl0 | exact bsSl1 ⟨_, _, _⟩) rfl (by decide) rfl ?_; intro g20
            refine GL.v Wag ?_
            refine GL.nil ?_
            refine GE.seq ?_
            refine GC.seq ?_
            refine GC.region ?_
            refine GL.v Wlba ?_
            refine GL.v Wmv ?_
            refine GL.call rfl rfl (sreach_spec w0 _ A c ms (by first | assumption | exact RdG.imp (by assumption) Wim | exact RdG.of_pick Wpk Wpk) hV _ _ ns Wrd hx (fun o ho => (wr_low h2 o ho).1.1)) ?_
            rintro _ _ ⟨D, e, rfl, rfl⟩
            obtain ⟨zs, hzs⟩ : ∃ zs, whichL ms.length (fromB (gr ms) ns) = zs := ⟨_, rfl⟩
            rw [hzs]
            have hzl : zs.length ≤ ms.length := by rw [← hzs]; exact whichL_length _ _
            have hz : ∀ x ∈ zs, 0 ≤ x ∧ x < ms.length := fun x hx => by
              rw [← hzs] at hx
              obtain ⟨k, hk, _, rfl⟩ := mem_whichL.1 hx
              omega
            refine GL.v Wag ?_
            refine GL.nil ?_
            refine GE.seq ?_
            refine GC.seq ?_
            refine GC.seq ?_
            refine GC.region ?_
            refine GL.v Wag ?_
            refine GL.nil ?_
            refine GE.seq ?_
            refine GC.block ?_
            -- loop 1: carried slots [5, 7]
            refine GC.loopK (α := Nat × Option Addr × Nat) (fun x => x.1 ≤ zs.length) (fun x => [(5, .slice x.2.1 (filtL zs (fun k => !decide (kindAt (gr ms) k = 0)) x.1).length x.2.2), (7, .int .i64 x.1)]) [(2, _), (6, _)] (fun x => row intE x.2.1 x.2.2 (filtL zs (fun k => !decide (kindAt (gr ms) k = 0)) x.1) :: row intE D e zs :: blk g2 25 [.slice A ms.length c] :: L) (fun x => zs.length - x.1) (0, some ⟨g20, 0, none⟩, 0) Wkp Wsb (Nat.zero_le _) ?_
            rintro ⟨i, E, f⟩ hi
            dsimp only at hi ⊢
            have hwl := filtL_length zs (fun k => !decide (kindAt (gr ms) k = 0)) i
            refine GC.seq ?_
            refine GC.seq ?_
            refine GC.region ?_
            refine GL.v Wmv ?_
            refine GL.v Wmv ?_
            refine GL.v Wln ?_
            refine GL.v Wls ?_
            refine GL.nil ?_
            refine GE.seq ?_
            refine GC.ifs (fun h3 => ?_) (fun h3 => ?_)
            · -- fFT
              have hil : i < zs.length := by omega
              have hzi := hz _ (List.getElem_mem hil)
              have hki : kindAt (gr ms) zs[i] = (ms[zs[i].toNat]'(by omega)).kind := kindAt_gr (by omega)
              refine GC.skip ?_
              refine GE.seq ?_
              refine GC.seq ?_
              refine GC.block ?_
              refine GC.seq ?_
              refine GC.region_quiet mixed (by kernel_rfl) ?_
              refine GL.v Wfa ?_
              refine GL.v Wlb ?_
              refine GL.v Wmv ?_
              refine GL.v Wmv ?_
              refine GL.v Wix ?_
              refine GL.v Wle ?_
              refine GL.v Wix ?_
              refine GL.v Wfa ?_
              refine GL.v Wlef ?_
              refine GL.v Wnq ?_
              refine GL.nil ?_
              refine GE.seq ?_
              refine GC.ifs (fun h4 => ?_) (fun h4 => ?_)
              · -- fFTT
                refine GC.region ?_
                refine GL.v Wmv ?_
                refine GL.v Wmv ?_
                refine GL.v Wmv ?_
                refine GL.v Wix ?_
                refine GL.v Wle ?_
                refine GL.buildSlice rfl (by first | exact bsInt0 | exact bsInt1 _ | exact bsInt2 _ _ | exact bsInt3 _ _ _ | exact bsInt4 _ _ _ _ | exact bsInt5 _ _ _ _ _ | exact bsInt6 _ _ _ _ _ _ | exact bsInt7 _ _ _ _ _ _ _ | exact bsInt8 _ _ _ _ _ _ _ _ | exact bsInt9 _ _ _ _ _ _ _ _ _ | exact bsInt10 _ _ _ _ _ _ _ _ _ _ | exact bsPart0 | exact bsPart1 ⟨_, _, _, _, _⟩ | exact bsNode1 ⟨_, _, _, _⟩ | exact bsPtr3 _ _ _ | exact bsSl0 | exact bsSl1 ⟨_, _, _⟩) rfl (by decide) rfl ?_; intro g45
                first | (refine GL.append rfl rfl Wpk (by assumption) Wim (by first | rfl | (simp; done) | (simp; omega)) (by first | rfl | (simp; done) | (simp; omega)) (by first | omega | (simp; omega)) (by first | omega | (simp; omega)) rfl ?_; intro A46 c46) | (refine GL.append rfl rfl Wpk (Rd.of_pick Wpk) Imp.refl (by first | rfl | (simp; done) | (simp; omega)) (by first | rfl | (simp; done) | (simp; omega)) (by first | omega | (simp; omega)) (by first | omega | (simp; omega)) rfl ?_; intro A46 c46)
                refine GL.v Wag ?_
                refine GL.nil ?_
                refine GE.block ?_
                refine GE.seq ?_
                refine GC.region ?_
                refine GL.v Wmv ?_
                refine GL.v Wad ?_
                refine GL.v Wag ?_
                refine GL.nil ?_
                -- round of loop 1, path fFTT
                rw [filtL_yes hil (by rw [hki, decide_eq_false h4]; rfl)]
                refine GE.round (i + 1, _, _) (by dsimp only; omega) (by dsimp only; omega) Wkp Wsb
              · -- fFTF
                refine GC.skip ?_
                refine GE.block ?_
                refine GE.seq ?_
                refine GC.region ?_
                refine GL.v Wmv ?_
                refine GL.v Wad ?_
                refine GL.v Wag ?_
                refine GL.nil ?_
                -- round of loop 1, path fFTF
                rw [filtL_no (q := fun k => !decide (kindAt (gr ms) k = 0)) hil (by rw [hki, decide_eq_true h4]; rfl)]
                refine GE.round (i + 1, E, f) (by dsimp only; omega) (by dsimp only; omega) Wkp Wsb
            · -- fFF
              have hie : i = zs.length := by omega
              subst hie
              have hff : filtL zs (fun k => !decide (kindAt (gr ms) k = 0)) zs.length = mayRunL (gr ms) ns := by
                rw [filtL_full, mayRunL_yes h1 h2, ← mayRun_filter, ← hzs, gr_length]
              rw [hff]
              refine GC.exit ?_
              refine GE.seq_exit ?_
              refine GE.loop_exit ?_
              refine GE.block_exit ?_
              refine GE.seq ?_
              refine GC.seq ?_
              refine GC.region ?_
              refine GL.v Wmv ?_
              refine GL.v Wag ?_
              refine GL.nil ?_
              refine GE.seq ?_
              refine GC.ret ?_
              -- returns, path fFF
              refine GE.ret_tmp (L' := row intE E f (mayRunL (gr ms) ns) :: L) (.inl rfl) rfl rfl Wsb ?_
              exact ⟨_, _, rfl, rfl⟩
        exact GAs.nil
      exact GAs.nil
  exact GAs.nil
end SG
