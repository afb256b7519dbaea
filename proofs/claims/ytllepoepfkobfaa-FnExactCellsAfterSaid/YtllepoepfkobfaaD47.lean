/- Contracts: flushes, and cells after sessions, of the reference. -/
import Derived.Test.YtllepoepfkobfaaD45
namespace SG
open Go Go.RowKit Go.Proofs
set_option linter.unusedVariables false
set_option linter.unusedSimpArgs false
set_option maxRecDepth 100000
instance : TyOk Try.prog 95 true 5 [.slice none 0 0, .int .i64 0, .slice none 0 0, .slice none 0 0, .int .i64 0] := ⟨by kernel_rfl, by kernel_rfl⟩
instance : TyOk Try.prog 91 false 1 [.pointer none] := ⟨by kernel_rfl, by kernel_rfl⟩
instance : FldOk Try.prog 95 0 0 := ⟨fun _ _ => by kernel_rfl⟩
instance : FldOk Try.prog 95 1 1 := ⟨fun _ _ => by kernel_rfl⟩
instance : FldOk Try.prog 95 2 2 := ⟨fun _ _ => by kernel_rfl⟩
instance : FldOk Try.prog 95 3 3 := ⟨fun _ _ => by kernel_rfl⟩
instance : FldOk Try.prog 95 4 4 := ⟨fun _ _ => by kernel_rfl⟩
theorem bdSes (A : Option Addr) (n c : Nat) (B : Option Addr) (m d : Nat) (C : Option Addr) (k e : Nat) : BdOk Try.prog 95 [(0, .agg #[.slice A n c]), (2, .slice B m d), (3, .slice C k e)] (.agg #[.slice A n c, .int .i64 0, .slice B m d, .slice C k e, .int .i64 0]) := ⟨fun w => by kernel_rfl⟩
theorem newSession_spec (w0 : World) (L : List Asn) (A : Option Addr) (c : Nat) (ms : List NdM) (hG : RdG w0 L A c ms) (hl : ms.length ≤ 1100000) (B : Option Addr) (d : Nat) (xs : List Int) (hX : Rd w0 L intE B d xs) (hx : xs.length ≤ 1100000) :
    Tr Try.prog 64 #[.agg #[.slice A ms.length c], .slice B xs.length d] w0 L (fun v L' => ∃ g D e C, v = .pointer (some ⟨g, 0, none⟩) ∧ L' = blk g 95 [.slice A ms.length c, .int .i64 0, .slice D xs.length e, .slice C ms.length ms.length, .int .i64 0] :: row intE D e xs :: row boolE C ms.length (List.replicate ms.length false) :: L) := by
  refine Tr.enter (args := [.agg #[.slice A ms.length c], .slice B xs.length d]) Try.func64 Try.ntmps64 rfl rfl ?_
  refine GC.seq ?_
  refine GC.region ?_
  refine GL.box_agg rfl rfl ?_; intro g2
  refine GL.v Wag ?_
  refine GL.nil ?_
  refine GE.seq ?_
  refine GC.seq ?_
  refine GC.region_any #[false, false, true, false, false, false, true, false, true, false] mixed ?_
  refine GA.read 0 #[false, true, true, true, true, true, true, false, false, false] rfl (by exact Wlba) rfl rfl (by kernel_rfl) rfl (by kernel_rfl) (by kernel_rfl) (fun _ _ _ h => h) ?_
  refine GA.take 1 #[true, false, false, true, true, true, true, false, false, false] rfl (by exact Ev.move rfl) rfl rfl (by kernel_rfl) rfl (by kernel_rfl) (by kernel_rfl) (fun _ _ _ h => h) ?_
  refine GA.take 3 #[true, true, true, false, false, false, false, false, false, false] rfl (by exact Ev.fieldAddr rfl) rfl rfl (by kernel_rfl) rfl (by kernel_rfl) (by kernel_rfl) (fun _ _ _ h => h) ?_
  refine GA.read 4 #[true, true, true, true, false, false, false, false, false, false] rfl (by exact Wlb) rfl rfl (by kernel_rfl) rfl (by kernel_rfl) (by kernel_rfl) (fun _ _ _ h => h) ?_
  refine GA.take 5 #[true, true, true, true, true, false, false, false, false, false] rfl (by exact Ev.len rfl) rfl rfl (by kernel_rfl) rfl (by kernel_rfl) (by kernel_rfl) (fun _ _ _ h => h) ?_
  refine GA.branch (rs := [2, 6]) (JOk.live (by exact Wlb) (JOk.live (by exact Wlba) JOk.nil)) (by kernel_rfl) (by simp) ?_
  refine GAs.cons rfl ?_ ?_
  · -- .2 op 2
    refine GL.call rfl rfl (copyInts_spec _ _ _ _ _ Wrd Wom) ?_
    rintro _ _ ⟨B7, d7, rfl, rfl⟩
    refine GL.nil ?_
    refine GE.any ?_
    refine GA.branch (rs := [6]) (JOk.live (by exact Wlb) (JOk.live (by exact Wlba) JOk.nil)) (by kernel_rfl) (by simp) ?_
    refine GAs.cons rfl ?_ ?_
    · -- .2 op 6
      refine GL.make rfl rfl Wik Wik (by omega) (by omega) rfl ?_; intro g11
      refine GL.nil ?_
      refine GE.any ?_
      refine GA.take 7 #[true, true, true, true, true, true, true, false, false, false] rfl (by exact Ev.build rfl (by first | exact bdPart ⟨_, _, _, _, _⟩ | exact bdReader _ _ _ | exact bdPart4 _ _ _ _ | exact bdForm _ _ _ | exact bdForm0 | exact bdGraph0 | exact bdGraph _ _ _ | exact bdNode1 _ | exact bdNode2 _ _ _ _ | exact bdHist0 | exact bdHist1 _ _ _ | exact bdHist2 _ _ _ _ | exact bdAct1 _ | exact bdAct2 _ _ | exact bdAct3 _ _ _ | exact bdAct13 _ _ | exact bdSes _ _ _ _ _ _ _ _ _)) rfl rfl (by kernel_rfl) rfl (by kernel_rfl) (by kernel_rfl) (fun _ _ _ h => h) ?_
      refine GA.branch (rs := [8]) (JOk.dead (by kernel_rfl) (JOk.live (by exact Wlba) JOk.nil)) (by kernel_rfl) (by simp) ?_
      refine GAs.cons rfl ?_ ?_
      · -- .2 op 8
        refine GL.box_agg rfl rfl ?_; intro g13
        refine GL.nil ?_
        refine GE.any ?_
        refine GA.take 9 #[true, true, true, true, true, true, true, true, true, false] rfl (by exact Ev.assign rfl) rfl rfl (by kernel_rfl) rfl (by kernel_rfl) (by kernel_rfl) (fun _ _ _ h => h) ?_
        refine GA.done (JOk.dead (by kernel_rfl) (JOk.dead (by kernel_rfl) JOk.nil)) (by kernel_rfl) ?_
        refine GE.seq ?_
        refine GC.ret ?_
        -- returns, path .2
        refine GE.ret_tmp (L' := blk g13 95 [.slice A ms.length c, .int .i64 0, .slice B7 xs.length d7, .slice (some ⟨g11, 0, none⟩) ms.length ms.length, .int .i64 0] :: row intE B7 d7 xs :: row boolE (some ⟨g11, 0, none⟩) ms.length (List.replicate ms.length false) :: L) (.inl rfl) rfl rfl Wsb ?_
        exact ⟨_, _, _, _, rfl, rfl⟩
      exact GAs.nil
    exact GAs.nil
  refine GAs.cons rfl ?_ ?_
  · -- .6 op 6
    refine GL.make rfl rfl Wik Wik (by omega) (by omega) rfl ?_; intro g11
    refine GL.nil ?_
    refine GE.any ?_
    refine GA.branch (rs := [2]) (JOk.dead (by kernel_rfl) (JOk.live (by exact Wlba) JOk.nil)) (by kernel_rfl) (by simp) ?_
    refine GAs.cons rfl ?_ ?_
    · -- .6 op 2
      refine GL.call rfl rfl (copyInts_spec _ _ _ _ _ Wrd Wom) ?_
      rintro _ _ ⟨B7, d7, rfl, rfl⟩
      refine GL.nil ?_
      refine GE.any ?_
      refine GA.take 7 #[true, true, true, true, true, true, true, false, false, false] rfl (by exact Ev.build rfl (by first | exact bdPart ⟨_, _, _, _, _⟩ | exact bdReader _ _ _ | exact bdPart4 _ _ _ _ | exact bdForm _ _ _ | exact bdForm0 | exact bdGraph0 | exact bdGraph _ _ _ | exact bdNode1 _ | exact bdNode2 _ _ _ _ | exact bdHist0 | exact bdHist1 _ _ _ | exact bdHist2 _ _ _ _ | exact bdAct1 _ | exact bdAct2 _ _ | exact bdAct3 _ _ _ | exact bdAct13 _ _ | exact bdSes _ _ _ _ _ _ _ _ _)) rfl rfl (by kernel_rfl) rfl (by kernel_rfl) (by kernel_rfl) (fun _ _ _ h => h) ?_
      refine GA.branch (rs := [8]) (JOk.dead (by kernel_rfl) (JOk.live (by exact Wlba) JOk.nil)) (by kernel_rfl) (by simp) ?_
      refine GAs.cons rfl ?_ ?_
      · -- .6 op 8
        refine GL.box_agg rfl rfl ?_; intro g13
        refine GL.nil ?_
        refine GE.any ?_
        refine GA.take 9 #[true, true, true, true, true, true, true, true, true, false] rfl (by exact Ev.assign rfl) rfl rfl (by kernel_rfl) rfl (by kernel_rfl) (by kernel_rfl) (fun _ _ _ h => h) ?_
        refine GA.done (JOk.dead (by kernel_rfl) (JOk.dead (by kernel_rfl) JOk.nil)) (by kernel_rfl) ?_
        refine GE.seq ?_
        refine GC.ret ?_
        -- returns, path .6
        refine GE.ret_tmp (L' := blk g13 95 [.slice A ms.length c, .int .i64 0, .slice B7 xs.length d7, .slice (some ⟨g11, 0, none⟩) ms.length ms.length, .int .i64 0] :: row intE B7 d7 xs :: row boolE (some ⟨g11, 0, none⟩) ms.length (List.replicate ms.length false) :: L) (.inl rfl) rfl rfl Wsb ?_
        exact ⟨_, _, _, _, rfl, rfl⟩
      exact GAs.nil
    exact GAs.nil
  exact GAs.nil
theorem stepOf_spec (w0 : World) (L : List Asn) (g : Nat) (A : Option Addr) (n c : Nat) (D : Option Addr) (e : Nat) (C : Option Addr) (gs : List Nd) (S : Ses) (a : Act3) (hn : gs.length = n) (hn10 : n ≤ 10) (hnow : S.now.length = n) (hstp : S.stp.length = n) (hopn : S.opn ≤ 1000) (hcnt : S.cnt ≤ 1000) (hok : actB gs a = true) :
    Tr Try.prog 65 #[.pointer (some ⟨g, 0, none⟩), a.val] w0 (blk g 95 [.slice A n c, .int .i64 S.opn, .slice D n e, .slice C n n, .int .i64 S.cnt] :: row intE D e S.now :: row boolE C n S.stp :: L) (fun v L' => v = .bool (dueB S.opn a.kind) ∧ L' = blk g 95 [.slice A n c, .int .i64 (S.step a).opn, .slice D n e, .slice C n n, .int .i64 (S.step a).cnt] :: row intE D e (S.step a).now :: row boolE C n (S.step a).stp :: L) := by
  have hak := act_kind hok
  rw [hn] at hak
  refine Tr.enter (args := [.pointer (some ⟨g, 0, none⟩), a.val]) Try.func65 Try.ntmps65 rfl rfl ?_
  refine GC.seq ?_
  refine GC.region ?_
  refine GL.box_agg rfl rfl ?_; intro g3
  refine GL.v Wag ?_
  refine GL.nil ?_
  refine GE.seq ?_
  refine GC.seq ?_
  refine GC.seq ?_
  refine GC.region ?_
  refine GL.v Wfa ?_
  refine GL.v Wlb ?_
  refine GL.nil ?_
  refine GE.seq ?_
  refine GC.block ?_
  refine GC.seq ?_
  refine GC.region ?_
  refine GL.v Weq ?_
  refine GL.v Wag ?_
  refine GL.nil ?_
  refine GE.seq ?_
  refine GC.ifs (fun h1 => ?_) (fun h1 => ?_)
  · -- T
    refine GC.region_tail 9 mixed (by kernel_rfl) ?_
    refine GS.val (by exact EvP.r (Ev.move rfl)) rfl rfl ?_
    refine GS.val (by exact EvP.r (Ev.nilCheck rfl)) rfl rfl ?_
    refine GS.val (by exact EvP.r (Ev.fieldAddr rfl)) rfl rfl ?_
    refine GS.val (by exact Wlb) rfl rfl ?_
    refine GS.val (by exact EvP.r (Ev.fieldAddr rfl)) rfl rfl ?_
    refine GS.val (by exact Wlb) rfl rfl ?_
    refine GS.val (by exact EvP.r (Ev.fieldAddr rfl)) rfl rfl ?_
    refine GS.val (by exact Wlb) rfl rfl ?_
    have hnb : 0 ≤ a.node ∧ a.node < n := by
      rcases hak with h | h | h | h
      · have := (cellB_iff.1 h.2.1).1; rw [hn] at this; exact this
      · omega
      · omega
      · omega
    refine GS.val (by exact Wix) rfl rfl ?_
    refine GS.nil ?_
    refine GL.store_el rfl rfl Wpk rfl rfl rfl (by first | omega | (simp; done) | (simp; omega)) ?_
    refine GL.nil ?_
    refine GE.block ?_
    refine GE.seq ?_
    refine GC.seq ?_
    refine GC.seq ?_
    refine GC.region ?_
    refine GL.v Wmv ?_
    refine GL.v Wnc ?_
    refine GL.v Wfa ?_
    refine GL.v Wlb ?_
    refine GL.v Wgt ?_
    refine GL.nil ?_
    refine GE.seq ?_
    refine GC.ifs (fun h2 => ?_) (fun h2 => ?_)
    · -- TT
      refine GC.seq ?_
      refine GC.region ?_
      refine GL.v Wag ?_
      refine GL.nil ?_
      refine GE.seq ?_
      refine GC.ret ?_
      refine GE.seq_ret ?_
      -- returns, path TT
      refine GE.ret_tmp (L' := blk g 95 [.slice A n c, .int .i64 S.opn, .slice D n e, .slice C n n, .int .i64 S.cnt] :: row intE D e (S.now.set a.node.toNat a.value) :: row boolE C n S.stp :: L) (.inl rfl) rfl rfl Wsb ?_
      have hd : dueB S.opn a.kind = false := (dueI_write h1).trans (decide_eq_false (by omega))
      have ho : ((S.step a).opn : Int) = (S.opn : Int) := show ((opnA S.opn a.kind : Nat) : Int) = _ from (by rw [opn_else (by omega) (by omega)])
      have hc : ((S.step a).cnt : Int) = (S.cnt : Int) := by rw [step_cnt, hd]; simp
      have hw : (S.step a).now = S.now.set a.node.toNat a.value := show wrt S.now a = _ from wrt_yes h1
      have hs : (S.step a).stp = S.stp := show stpA S.stp a = _ from stp_else (by omega)
      exact ⟨by rw [hd], by rw [ho, hc, hw, hs]⟩
    · -- TF
      refine GC.skip ?_
      refine GE.seq ?_
      refine GC.seq ?_
      refine GC.region ?_
      refine GL.v Wmv ?_
      refine GL.v Wmv ?_
      refine GL.v Wnc ?_
      refine GL.v Wfa ?_
      refine GL.v Wlb ?_
      refine GL.v Wad ?_
      refine GL.v Wnc ?_
      refine GL.v Wfa ?_
      refine GL.store_blk rfl rfl rfl Wpk (Nat.lt_of_lt_of_le (Nat.le_of_ble_eq_true (by rfl)) (Nat.le_refl _)) (by rfl) (by rfl) ?_
      refine GL.nil ?_
      refine GE.seq ?_
      refine GC.seq ?_
      refine GC.region ?_
      refine GL.v Wag ?_
      refine GL.nil ?_
      refine GE.seq ?_
      refine GC.ret ?_
      -- returns, path TF
      refine GE.ret_tmp (L' := blk g 95 [.slice A n c, .int .i64 S.opn, .slice D n e, .slice C n n, .int .i64 ((S.cnt : Int) + 1)] :: row intE D e (S.now.set a.node.toNat a.value) :: row boolE C n S.stp :: L) (.inl rfl) rfl rfl Wsb ?_
      have hd : dueB S.opn a.kind = true := (dueI_write h1).trans (decide_eq_true (by omega))
      have ho : ((S.step a).opn : Int) = (S.opn : Int) := show ((opnA S.opn a.kind : Nat) : Int) = _ from (by rw [opn_else (by omega) (by omega)])
      have hc : ((S.step a).cnt : Int) = (S.cnt : Int) + 1 := by rw [step_cnt, hd]; simp
      have hw : (S.step a).now = S.now.set a.node.toNat a.value := show wrt S.now a = _ from wrt_yes h1
      have hs : (S.step a).stp = S.stp := show stpA S.stp a = _ from stp_else (by omega)
      exact ⟨by rw [hd], by rw [ho, hc, hw, hs]⟩
  · -- F
    refine GC.seq ?_
    refine GC.region ?_
    refine GL.v Weq ?_
    refine GL.v Wag ?_
    refine GL.nil ?_
    refine GE.seq ?_
    refine GC.ifs (fun h2 => ?_) (fun h2 => ?_)
    · -- FT
      refine GC.seq ?_
      refine GC.region_tail 7 mixed (by kernel_rfl) ?_
      refine GS.val (by exact EvP.r (Ev.move rfl)) rfl rfl ?_
      refine GS.val (by exact EvP.r (Ev.nilCheck rfl)) rfl rfl ?_
      refine GS.val (by exact EvP.r (Ev.fieldAddr rfl)) rfl rfl ?_
      refine GS.val (by exact Wlb) rfl rfl ?_
      refine GS.val (by exact EvP.r (Ev.fieldAddr rfl)) rfl rfl ?_
      refine GS.val (by exact Wlb) rfl rfl ?_
      have hnb : 0 ≤ a.node ∧ a.node < n := by
        rcases hak with h | h | h | h
        · omega
        · exact h.2.1
        · omega
        · omega
      refine GS.val (by exact Wix) rfl rfl ?_
      refine GS.nil ?_
      refine GL.store_el rfl rfl Wpk rfl rfl rfl (by first | omega | (simp; done) | (simp; omega)) ?_
      refine GL.nil ?_
      refine GE.seq ?_
      refine GC.seq ?_
      refine GC.region ?_
      refine GL.v Wag ?_
      refine GL.nil ?_
      refine GE.seq ?_
      refine GC.ret ?_
      refine GE.block_ret ?_
      refine GE.seq_ret ?_
      -- returns, path FT
      refine GE.ret_tmp (L' := blk g 95 [.slice A n c, .int .i64 S.opn, .slice D n e, .slice C n n, .int .i64 S.cnt] :: row intE D e S.now :: row boolE C n (S.stp.set a.node.toNat true) :: L) (.inl rfl) rfl rfl Wsb ?_
      have hd : dueB S.opn a.kind = false := due_stop h2
      have ho : ((S.step a).opn : Int) = (S.opn : Int) := show ((opnA S.opn a.kind : Nat) : Int) = _ from (by rw [opn_else (by omega) (by omega)])
      have hc : ((S.step a).cnt : Int) = (S.cnt : Int) := by rw [step_cnt, hd]; simp
      have hw : (S.step a).now = S.now := show wrt S.now a = _ from wrt_no (by omega)
      have hs : (S.step a).stp = S.stp.set a.node.toNat true := show stpA S.stp a = _ from stp_stop h2
      exact ⟨by rw [hd], by rw [ho, hc, hw, hs]⟩
    · -- FF
      refine GC.seq ?_
      refine GC.region ?_
      refine GL.v Weq ?_
      refine GL.v Wag ?_
      refine GL.nil ?_
      refine GE.seq ?_
      refine GC.ifs (fun h3 => ?_) (fun h3 => ?_)
      · -- FFT
        refine GC.region ?_
        refine GL.v Wmv ?_
        refine GL.v Wmv ?_
        refine GL.v Wnc ?_
        refine GL.v Wfa ?_
        refine GL.v Wlb ?_
        refine GL.v Wad ?_
        refine GL.v Wnc ?_
        refine GL.v Wfa ?_
        refine GL.store_blk rfl rfl rfl Wpk (Nat.lt_of_lt_of_le (Nat.le_of_ble_eq_true (by rfl)) (Nat.le_refl _)) (by rfl) (by rfl) ?_
        refine GL.nil ?_
        refine GE.block ?_
        refine GE.seq ?_
        refine GC.seq ?_
        refine GC.seq ?_
        refine GC.region ?_
        refine GL.v Wmv ?_
        refine GL.v Wnc ?_
        refine GL.v Wfa ?_
        refine GL.v Wlb ?_
        refine GL.v Wgt ?_
        refine GL.nil ?_
        refine GE.seq ?_
        refine GC.ifs (fun h4 => ?_) (fun h4 => ?_)
        · -- FFTT
          refine GC.seq ?_
          refine GC.region ?_
          refine GL.v Wag ?_
          refine GL.nil ?_
          refine GE.seq ?_
          refine GC.ret ?_
          refine GE.seq_ret ?_
          -- returns, path FFTT
          refine GE.ret_tmp (L' := blk g 95 [.slice A n c, .int .i64 ((S.opn : Int) + 1), .slice D n e, .slice C n n, .int .i64 S.cnt] :: row intE D e S.now :: row boolE C n S.stp :: L) (.inl rfl) rfl rfl Wsb ?_
          have hd : dueB S.opn a.kind = false := due_begin h3
          have ho : ((S.step a).opn : Int) = (S.opn : Int) + 1 := show ((opnA S.opn a.kind : Nat) : Int) = _ from (opnI_begin h3)
          have hc : ((S.step a).cnt : Int) = (S.cnt : Int) := by rw [step_cnt, hd]; simp
          have hw : (S.step a).now = S.now := show wrt S.now a = _ from wrt_no (by omega)
          have hs : (S.step a).stp = S.stp := show stpA S.stp a = _ from stp_else (by omega)
          exact ⟨by rw [hd], by rw [ho, hc, hw, hs]⟩
        · -- FFTF
          omega
      · -- FFF
        refine GC.seq ?_
        refine GC.region ?_
        refine GL.v Weq ?_
        refine GL.v Wag ?_
        refine GL.nil ?_
        refine GE.seq ?_
        refine GC.ifs (fun h4 => ?_) (fun h4 => ?_)
        · -- FFFT
          refine GC.seq ?_
          refine GC.seq ?_
          refine GC.region ?_
          refine GL.v Wmv ?_
          refine GL.v Wnc ?_
          refine GL.v Wfa ?_
          refine GL.v Wlb ?_
          refine GL.v Weq ?_
          refine GL.nil ?_
          refine GE.seq ?_
          refine GC.ifs (fun h5 => ?_) (fun h5 => ?_)
          · -- FFFTT
            refine GC.seq ?_
            refine GC.region ?_
            refine GL.v Wag ?_
            refine GL.nil ?_
            refine GE.seq ?_
            refine GC.ret ?_
            refine GE.seq_ret ?_
            refine GE.block_ret ?_
            refine GE.seq_ret ?_
            -- returns, path FFFTT
            refine GE.ret_tmp (L' := blk g 95 [.slice A n c, .int .i64 S.opn, .slice D n e, .slice C n n, .int .i64 S.cnt] :: row intE D e S.now :: row boolE C n S.stp :: L) (.inl rfl) rfl rfl Wsb ?_
            have hd : dueB S.opn a.kind = false := (dueI_end h4).trans (decide_eq_false (by omega))
            have ho : ((S.step a).opn : Int) = (S.opn : Int) := show ((opnA S.opn a.kind : Nat) : Int) = _ from (by rw [opn_end h4]; omega)
            have hc : ((S.step a).cnt : Int) = (S.cnt : Int) := by rw [step_cnt, hd]; simp
            have hw : (S.step a).now = S.now := show wrt S.now a = _ from wrt_no (by omega)
            have hs : (S.step a).stp = S.stp := show stpA S.stp a = _ from stp_else (by omega)
            exact ⟨by rw [hd], by rw [ho, hc, hw, hs]⟩
          · -- FFFTF
            refine GC.skip ?_
            refine GE.seq ?_
            refine GC.region ?_
            refine GL.v Wmv ?_
            refine GL.v Wmv ?_
            refine GL.v Wnc ?_
            refine GL.v Wfa ?_
            refine GL.v Wlb ?_
            refine GL.v Wsu ?_
            refine GL.v Wnc ?_
            refine GL.v Wfa ?_
            refine GL.store_blk rfl rfl rfl Wpk (Nat.lt_of_lt_of_le (Nat.le_of_ble_eq_true (by rfl)) (Nat.le_refl _)) (by rfl) (by rfl) ?_
            refine GL.nil ?_
            refine GE.block ?_
            refine GE.seq ?_
            refine GC.seq ?_
            refine GC.seq ?_
            refine GC.region ?_
            refine GL.v Wmv ?_
            refine GL.v Wnc ?_
            refine GL.v Wfa ?_
            refine GL.v Wlb ?_
            refine GL.v Wgt ?_
            refine GL.nil ?_
            refine GE.seq ?_
            refine GC.ifs (fun h6 => ?_) (fun h6 => ?_)
            · -- FFFTFT
              refine GC.seq ?_
              refine GC.region ?_
              refine GL.v Wag ?_
              refine GL.nil ?_
              refine GE.seq ?_
              refine GC.ret ?_
              refine GE.seq_ret ?_
              -- returns, path FFFTFT
              refine GE.ret_tmp (L' := blk g 95 [.slice A n c, .int .i64 ((S.opn : Int) - 1), .slice D n e, .slice C n n, .int .i64 S.cnt] :: row intE D e S.now :: row boolE C n S.stp :: L) (.inl rfl) rfl rfl Wsb ?_
              have hd : dueB S.opn a.kind = false := (dueI_end h4).trans (decide_eq_false (by omega))
              have ho : ((S.step a).opn : Int) = (S.opn : Int) - 1 := show ((opnA S.opn a.kind : Nat) : Int) = _ from (by rw [opn_end h4]; omega)
              have hc : ((S.step a).cnt : Int) = (S.cnt : Int) := by rw [step_cnt, hd]; simp
              have hw : (S.step a).now = S.now := show wrt S.now a = _ from wrt_no (by omega)
              have hs : (S.step a).stp = S.stp := show stpA S.stp a = _ from stp_else (by omega)
              exact ⟨by rw [hd], by rw [ho, hc, hw, hs]⟩
            · -- FFFTFF
              refine GC.skip ?_
              refine GE.seq ?_
              refine GC.seq ?_
              refine GC.region ?_
              refine GL.v Wmv ?_
              refine GL.v Wmv ?_
              refine GL.v Wnc ?_
              refine GL.v Wfa ?_
              refine GL.v Wlb ?_
              refine GL.v Wad ?_
              refine GL.v Wnc ?_
              refine GL.v Wfa ?_
              refine GL.store_blk rfl rfl rfl Wpk (Nat.lt_of_lt_of_le (Nat.le_of_ble_eq_true (by rfl)) (Nat.le_refl _)) (by rfl) (by rfl) ?_
              refine GL.nil ?_
              refine GE.seq ?_
              refine GC.seq ?_
              refine GC.region ?_
              refine GL.v Wag ?_
              refine GL.nil ?_
              refine GE.seq ?_
              refine GC.ret ?_
              -- returns, path FFFTFF
              refine GE.ret_tmp (L' := blk g 95 [.slice A n c, .int .i64 ((S.opn : Int) - 1), .slice D n e, .slice C n n, .int .i64 ((S.cnt : Int) + 1)] :: row intE D e S.now :: row boolE C n S.stp :: L) (.inl rfl) rfl rfl Wsb ?_
              have hd : dueB S.opn a.kind = true := (dueI_end h4).trans (decide_eq_true (by omega))
              have ho : ((S.step a).opn : Int) = (S.opn : Int) - 1 := show ((opnA S.opn a.kind : Nat) : Int) = _ from (by rw [opn_end h4]; omega)
              have hc : ((S.step a).cnt : Int) = (S.cnt : Int) + 1 := by rw [step_cnt, hd]; simp
              have hw : (S.step a).now = S.now := show wrt S.now a = _ from wrt_no (by omega)
              have hs : (S.step a).stp = S.stp := show stpA S.stp a = _ from stp_else (by omega)
              exact ⟨by rw [hd], by rw [ho, hc, hw, hs]⟩
        · -- FFFF
          omega
theorem Tr.lenQ {P : Program} {F : FuncId} {a : Value} {B : Option Addr} {n d : Nat} {w0 : World} {L : List Asn} {R : Value → List Asn → Prop} (xs : List Int) (h : n = xs.length) (hT : Tr P F #[a, .slice B xs.length d] w0 L R) : Tr P F #[a, .slice B n d] w0 L R := by rw [h]; exact hT
theorem run_low (n : Nat) (xs : List Int) (hxl : xs.length = n) (acts : List Act3) : ∀ k, k ≤ acts.length → (runA (ses0 n xs) acts k).now.length = n ∧ (runA (ses0 n xs) acts k).stp.length = n ∧ (runA (ses0 n xs) acts k).opn ≤ k ∧ (runA (ses0 n xs) acts k).cnt ≤ k := fun k hk => by
  obtain ⟨h1, h2, h3, h4⟩ := runA_now (ses0 n xs) acts k hk
  exact ⟨h1.trans hxl, h2.trans (by simp [ses0]), by simpa [ses0] using h3, by simpa [ses0] using h4⟩
theorem sFlushesIn_spec (w0 : World) (L : List Asn) (A : Option Addr) (c : Nat) (ms : List NdM) (hG : RdG w0 L A c ms) (E : Option Addr) (f : Nat) (acts : List Act3) (hA : Rd w0 L actE E f acts) (hS : SizeG ms) (ha : acts.length ≤ 1100000) :
    Tr Try.prog 23 #[.agg #[.slice A ms.length c], .slice E acts.length f] w0 L (fun v L' => v = .tuple #[.int .i64 (flN (gr ms) acts), .int .i64 (flO (gr ms) acts)] ∧ L' = L) := by
  have hSl := hS.1
  have hN := hG.nodes
  refine Tr.enter (args := [.agg #[.slice A ms.length c], .slice E acts.length f]) Try.func23 Try.ntmps23 rfl rfl ?_
  refine GC.seq ?_
  refine GC.region ?_
  refine GL.box_agg rfl rfl ?_; intro g2
  refine GL.v Wag ?_
  refine GL.v Wag ?_
  refine GL.nil ?_
  refine GE.seq ?_
  refine GC.seq ?_
  refine GC.seq ?_
  refine GC.region ?_
  refine GL.v Wlba ?_
  refine GL.v Wmv ?_
  refine GL.callF rfl rfl (svalidActs_spec _ _ _ _ _ (by first | assumption | exact RdG.imp (by assumption) Wim | exact RdG.of_pick Wpk Wpk) _ _ _ Wrd (by assumption) Wom) ?_
  refine GL.v Wnt ?_
  refine GL.nil ?_
  refine GE.seq ?_
  refine GC.ifs (fun h1 => ?_) (fun h1 => ?_)
  · -- T
    refine GC.seq ?_
    refine GC.region ?_
    refine GL.v Wag ?_
    refine GL.v Wag ?_
    refine GL.nil ?_
    refine GE.seq ?_
    refine GC.ret ?_
    refine GE.seq_ret ?_
    -- returns, path T
    refine GE.ret_tmp2 (L' := L) (.inl rfl) rfl rfl rfl Wsb ?_
    rw [(fl_no h1).1, (fl_no h1).2]
    exact ⟨rfl, rfl⟩
  · -- F
    obtain ⟨hv1, hv2, hv3⟩ := actsB_iff.1 h1
    have hl10 : ms.length ≤ 10 := by have := (validG_iff.1 hv1).1; simpa using this
    have hrl := run_low ms.length (List.replicate ms.length 0) (by simp) acts
    refine GC.skip ?_
    refine GE.seq ?_
    refine GC.seq ?_
    refine GC.region_any #[false, false, false, false, true, true, false] mixed ?_
    refine GA.read 0 #[false, true, true, true, true, false, false] rfl (by exact Wlba) rfl rfl (by kernel_rfl) rfl (by kernel_rfl) (by kernel_rfl) (fun _ _ _ h => h) ?_
    refine GA.take 1 #[true, false, false, false, false, false, false] rfl (by exact Ev.fieldAddr rfl) rfl rfl (by kernel_rfl) rfl (by kernel_rfl) (by kernel_rfl) (fun _ _ _ h => h) ?_
    refine GA.read 2 #[true, true, false, false, false, false, false] rfl (by exact Wlb) rfl rfl (by kernel_rfl) rfl (by kernel_rfl) (by kernel_rfl) (fun _ _ _ h => h) ?_
    refine GA.take 3 #[true, true, true, false, false, false, false] rfl (by exact Ev.len rfl) rfl rfl (by kernel_rfl) rfl (by kernel_rfl) (by kernel_rfl) (fun _ _ _ h => h) ?_
    refine GA.branch (rs := [4]) (JOk.live (by exact Wlb) (JOk.live (by exact Wlba) JOk.nil)) (by kernel_rfl) (by simp) ?_
    refine GAs.cons rfl ?_ ?_
    · -- F op 4
      refine GL.make rfl rfl Wik Wik (by omega) (by omega) rfl ?_; intro g16
      refine GL.nil ?_
      refine GE.any ?_
      refine GA.branch (rs := [5]) (JOk.dead (by kernel_rfl) (JOk.live (by exact Wlba) JOk.nil)) (by kernel_rfl) (by simp) ?_
      refine GAs.cons rfl ?_ ?_
      · -- F op 5
        refine GL.call rfl rfl (Tr.lenQ (List.replicate ms.length 0) (by simp) (newSession_spec _ _ _ _ _ (by first | assumption | exact RdG.imp (by assumption) Wim | exact RdG.of_pick Wpk Wpk) Wom _ _ (List.replicate ms.length 0) Wrd (by simp; omega))) ?_
        rintro _ _ ⟨G, D, e, C, rfl, rfl⟩
        rw [List.length_replicate]
        refine GL.nil ?_
        refine GE.any ?_
        refine GA.take 6 #[true, true, true, true, true, true, false] rfl (by exact Ev.assign rfl) rfl rfl (by kernel_rfl) rfl (by kernel_rfl) (by kernel_rfl) (fun _ _ _ h => h) ?_
        refine GA.done (JOk.dead (by kernel_rfl) (JOk.dead (by kernel_rfl) JOk.nil)) (by kernel_rfl) ?_
        refine GE.seq ?_
        refine GC.seq ?_
        refine GC.seq ?_
        refine GC.region ?_
        refine GL.v Wag ?_
        refine GL.nil ?_
        refine GE.seq ?_
        refine GC.block ?_
        -- loop 1: carried slots [7]
        refine GC.loopK (α := Nat) (fun i => i ≤ acts.length) (fun i => [(7, .int .i64 i)]) [(1, _), (6, _)] (fun i => blk G 95 [.slice A ms.length c, .int .i64 (runA (ses0 ms.length (List.replicate ms.length 0)) acts i).opn, .slice D ms.length e, .slice C ms.length ms.length, .int .i64 (runA (ses0 ms.length (List.replicate ms.length 0)) acts i).cnt] :: row intE D e (runA (ses0 ms.length (List.replicate ms.length 0)) acts i).now :: row boolE C ms.length (runA (ses0 ms.length (List.replicate ms.length 0)) acts i).stp :: L) (fun i => acts.length - i) 0 Wkp Wsb (Nat.zero_le _) ?_
        rintro i hi
        have hr := hrl i hi
        refine GC.seq ?_
        refine GC.seq ?_
        refine GC.region ?_
        refine GL.v Wmv ?_
        refine GL.v Wmv ?_
        refine GL.v Wln ?_
        refine GL.v Wls ?_
        refine GL.nil ?_
        refine GE.seq ?_
        refine GC.ifs (fun h2 => ?_) (fun h2 => ?_)
        · -- FT
          have hil : i < acts.length := by omega
          have hnx := runA_succ (ses0 ms.length (List.replicate ms.length 0)) acts hil
          obtain ⟨S, hSe⟩ : ∃ S, runA (ses0 ms.length (List.replicate ms.length 0)) acts i = S := ⟨_, rfl⟩
          rw [hSe] at hr hnx ⊢
          obtain ⟨hr1, hr2, hr3, hr4⟩ := hr
          refine GC.skip ?_
          refine GE.seq ?_
          refine GC.seq ?_
          refine GC.block ?_
          refine GC.region ?_
          refine GL.v Wmv ?_
          refine GL.v Wmv ?_
          refine GL.v Wmv ?_
          refine GL.v Wix ?_
          refine GL.v Wle ?_
          refine GL.front (A := row boolE C ms.length S.stp) Wpk ?_
          refine GL.front (A := row intE D e S.now) Wpk ?_
          refine GL.front (A := blk G 95 [.slice A ms.length c, .int .i64 S.opn, .slice D ms.length e, .slice C ms.length ms.length, .int .i64 S.cnt]) Wpk ?_
          refine GL.call rfl rfl (stepOf_spec w0 _ G A ms.length c D e C (gr ms) S acts[i] (gr_length ms) hl10 hr1 hr2 (by omega) (by omega) (hv3 _ (List.getElem_mem hil))) ?_
          rintro _ _ ⟨rfl, rfl⟩
          rw [← hnx]
          refine GL.nil ?_
          refine GE.block ?_
          refine GE.seq ?_
          refine GC.region ?_
          refine GL.v Wmv ?_
          refine GL.v Wad ?_
          refine GL.v Wag ?_
          refine GL.nil ?_
          -- round of loop 1, path FT
          refine GE.round (i + 1) (by omega) (by omega) Wkp Wsb
        · -- FF
          obtain rfl : i = acts.length := by omega
          have hy := fl_yes h1
          rw [gr_length] at hy
          refine GC.exit ?_
          refine GE.seq_exit ?_
          refine GE.loop_exit ?_
          refine GE.block_exit ?_
          refine GE.seq ?_
          refine GC.seq ?_
          refine GC.region_quiet mixed (by kernel_rfl) ?_
          refine GL.v Wmv ?_
          refine GL.v Wnc ?_
          refine GL.v Wfa ?_
          refine GL.v Wlb ?_
          refine GL.v Wmv ?_
          refine GL.v Wnc ?_
          refine GL.v Wfa ?_
          refine GL.v Wlb ?_
          refine GL.v Wag ?_
          refine GL.v Wag ?_
          refine GL.nil ?_
          refine GE.seq ?_
          refine GC.ret ?_
          -- returns, path FF
          refine GE.ret_tmp2 (L' := L) (.inl rfl) rfl rfl rfl Wsb ?_
          rw [hy.1, hy.2]
          exact ⟨rfl, rfl⟩
      exact GAs.nil
    exact GAs.nil
theorem validSession_spec (w0 : World) (L : List Asn) (A : Option Addr) (c : Nat) (ms : List NdM) (hG : RdG w0 L A c ms) (B : Option Addr) (d : Nat) (xs : List Int) (hX : Rd w0 L intE B d xs) (E : Option Addr) (f : Nat) (acts : List Act3) (hA : Rd w0 L actE E f acts) (hS : SizeG ms) (hx : xs.length ≤ 1100000) (ha : acts.length ≤ 1100000) :
    Tr Try.prog 70 #[.agg #[.slice A ms.length c], .slice B xs.length d, .slice E acts.length f] w0 L (fun v L' => v = .bool (sesB (gr ms) xs acts) ∧ L' = L) := by
  have hSl := hS.1
  refine Tr.enter (args := [.agg #[.slice A ms.length c], .slice B xs.length d, .slice E acts.length f]) Try.func70 Try.ntmps70 rfl rfl ?_
  refine GC.seq ?_
  refine GC.region ?_
  refine GL.box_agg rfl rfl ?_; intro g3
  refine GL.v Wag ?_
  refine GL.nil ?_
  refine GE.seq ?_
  refine GC.seq ?_
  refine GC.region ?_
  refine GL.v Wlba ?_
  refine GL.callF rfl rfl (svalidGraph_spec _ _ _ _ _ (by first | assumption | exact RdG.imp (by assumption) Wim | exact RdG.of_pick Wpk Wpk) (by assumption)) ?_
  refine GL.v Wmv ?_
  refine GL.gs (fun h1 => ?_) (fun h1 => ?_)
  · -- t
    refine GL.want rfl rfl ?_
    refine GL.v Wlba ?_
    refine GL.want rfl rfl ?_
    refine GL.v Wmv ?_
    refine GL.want rfl rfl ?_
    refine GL.callF rfl rfl (svalidCells_spec _ _ _ _ _ (by first | assumption | exact RdG.imp (by assumption) Wim | exact RdG.of_pick Wpk Wpk) _ _ _ Wrd Wom) ?_
    refine GL.v Wpt ?_
    refine GL.v Wmv ?_
    refine GL.gs (fun h2 => ?_) (fun h2 => ?_)
    · -- tt
      refine GL.want rfl rfl ?_
      refine GL.v Wlba ?_
      refine GL.want rfl rfl ?_
      refine GL.v Wmv ?_
      refine GL.want rfl rfl ?_
      refine GL.callF rfl rfl (svalidActs_spec _ _ _ _ _ (by first | assumption | exact RdG.imp (by assumption) Wim | exact RdG.of_pick Wpk Wpk) _ _ _ Wrd (by assumption) Wom) ?_
      refine GL.v Wpt ?_
      refine GL.v Wag ?_
      refine GL.nil ?_
      refine GE.seq ?_
      refine GC.ret ?_
      -- returns, path tt
      refine GE.ret_tmp (L' := L) (.inl rfl) rfl rfl Wsb ?_
      exact ⟨by simp [sesB, cellsV, *], rfl⟩
    · -- tf
      refine GL.unwant rfl rfl rfl rfl ?_
      refine GL.unwant rfl rfl rfl rfl ?_
      refine GL.unwant rfl rfl rfl rfl ?_
      refine GL.v Wpf ?_
      refine GL.v Wag ?_
      refine GL.nil ?_
      refine GE.seq ?_
      refine GC.ret ?_
      -- returns, path tf
      refine GE.ret_tmp (L' := L) (.inl rfl) rfl rfl Wsb ?_
      exact ⟨by simp [sesB, cellsV, *], rfl⟩
  · -- f
    refine GL.unwant rfl rfl rfl rfl ?_
    refine GL.unwant rfl rfl rfl rfl ?_
    refine GL.unwant rfl rfl rfl rfl ?_
    refine GL.v Wpf ?_
    refine GL.v Wmv ?_
    refine GL.unwant rfl rfl rfl rfl ?_
    refine GL.unwant rfl rfl rfl rfl ?_
    refine GL.unwant rfl rfl rfl rfl ?_
    refine GL.v Wpf ?_
    refine GL.v Wag ?_
    refine GL.nil ?_
    refine GE.seq ?_
    refine GC.ret ?_
    -- returns, path f
    refine GE.ret_tmp (L' := L) (.inl rfl) rfl rfl Wsb ?_
    exact ⟨by simp [sesB, cellsV, *], rfl⟩
theorem sCellsAfter_spec (w0 : World) (L : List Asn) (A : Option Addr) (c : Nat) (ms : List NdM) (hG : RdG w0 L A c ms) (B : Option Addr) (d : Nat) (xs : List Int) (hX : Rd w0 L intE B d xs) (E : Option Addr) (f : Nat) (acts : List Act3) (hA : Rd w0 L actE E f acts) (hS : SizeG ms) (hx : xs.length ≤ 1100000) (ha : acts.length ≤ 1100000) :
    Tr Try.prog 28 #[.agg #[.slice A ms.length c], .slice B xs.length d, .slice E acts.length f] w0 L (fun v L' => ∃ D e, v = .slice D (aftL (gr ms) xs acts).length e ∧ L' = row intE D e (aftL (gr ms) xs acts) :: L) := by
  have hSl := hS.1
  have hN := hG.nodes
  refine Tr.enter (args := [.agg #[.slice A ms.length c], .slice B xs.length d, .slice E acts.length f]) Try.func28 Try.ntmps28 rfl rfl ?_
  refine GC.seq ?_
  refine GC.region ?_
  refine GL.box_agg rfl rfl ?_; intro g3
  refine GL.v Wag ?_
  refine GL.nil ?_
  refine GE.seq ?_
  refine GC.seq ?_
  refine GC.seq ?_
  refine GC.region ?_
  refine GL.v Wlba ?_
  refine GL.v Wmv ?_
  refine GL.v Wmv ?_
  refine GL.callF rfl rfl (validSession_spec _ _ _ _ _ (by first | assumption | exact RdG.imp (by assumption) Wim | exact RdG.of_pick Wpk Wpk) _ _ _ Wrd _ _ _ Wrd (by assumption) Wom Wom) ?_
  refine GL.v Wnt ?_
  refine GL.nil ?_
  refine GE.seq ?_
  refine GC.ifs (fun h1 => ?_) (fun h1 => ?_)
  · -- T
    refine GC.seq ?_
    refine GC.region ?_
    refine GL.v Wag ?_
    refine GL.nil ?_
    refine GE.seq ?_
    refine GC.ret ?_
    refine GE.seq_ret ?_
    -- returns, path T
    refine GE.state (fun _ hs => hs.empty intE none) ?_
    refine GE.ret_tmp (L' := row intE none 0 [] :: L) (.inl rfl) rfl rfl Wsb ?_
    rw [aftL_no h1]
    exact ⟨none, 0, rfl, rfl⟩
  · -- F
    obtain ⟨hcv, hav⟩ := sesB_iff.1 h1
    obtain ⟨hv1, hv2, hv3⟩ := actsB_iff.1 hav
    have hl10 : ms.length ≤ 10 := by have := (validG_iff.1 hv1).1; simpa using this
    have hxl := (cellsV_len hcv).1
    rw [gr_length] at hxl
    have hrl := run_low ms.length xs hxl acts
    refine GC.skip ?_
    refine GE.seq ?_
    refine GC.seq ?_
    refine GC.region ?_
    refine GL.v Wlba ?_
    refine GL.v Wmv ?_
    refine GL.call rfl rfl (newSession_spec _ _ _ _ _ (by first | assumption | exact RdG.imp (by assumption) Wim | exact RdG.of_pick Wpk Wpk) Wom _ _ _ Wrd Wom) ?_
    rintro _ _ ⟨G, D, e, C, rfl, rfl⟩
    rw [hxl]
    refine GL.v Wag ?_
    refine GL.nil ?_
    refine GE.seq ?_
    refine GC.seq ?_
    refine GC.region ?_
    refine GL.v Wmv ?_
    refine GL.call rfl rfl (Tr.lenO hxl.symm (copyInts_spec _ _ _ _ _ (hX.imp Wim) hx)) ?_
    rintro _ _ ⟨B19, d19, rfl, rfl⟩
    refine GL.v Wag ?_
    refine GL.nil ?_
    refine GE.seq ?_
    refine GC.seq ?_
    refine GC.seq ?_
    refine GC.region ?_
    refine GL.v Wag ?_
    refine GL.nil ?_
    refine GE.seq ?_
    refine GC.block ?_
    -- loop 1: carried slots [8, 9]
    refine GC.loopK (α := Nat × Option Addr × Nat) (fun x => x.1 ≤ acts.length) (fun x => [(8, .slice x.2.1 (runA (ses0 ms.length xs) acts x.1).lst.length x.2.2), (9, .int .i64 x.1)]) [(2, _), (7, _)] (fun x => row intE x.2.1 x.2.2 (runA (ses0 ms.length xs) acts x.1).lst :: blk G 95 [.slice A ms.length c, .int .i64 (runA (ses0 ms.length xs) acts x.1).opn, .slice D ms.length e, .slice C ms.length ms.length, .int .i64 (runA (ses0 ms.length xs) acts x.1).cnt] :: row intE D e (runA (ses0 ms.length xs) acts x.1).now :: row boolE C ms.length (runA (ses0 ms.length xs) acts x.1).stp :: blk g3 25 [.slice A ms.length c] :: L) (fun x => acts.length - x.1) (0, B19, d19) Wkp Wsb (Nat.zero_le _) ?_
    rintro ⟨i, K, k⟩ hi
    dsimp only at hi ⊢
    have hr := hrl i hi
    refine GC.seq ?_
    refine GC.seq ?_
    refine GC.region ?_
    refine GL.v Wmv ?_
    refine GL.v Wmv ?_
    refine GL.v Wln ?_
    refine GL.v Wls ?_
    refine GL.nil ?_
    refine GE.seq ?_
    refine GC.ifs (fun h2 => ?_) (fun h2 => ?_)
    · -- FT
      have hil : i < acts.length := by omega
      have hnx := runA_succ (ses0 ms.length xs) acts hil
      obtain ⟨S, hSe⟩ : ∃ S, runA (ses0 ms.length xs) acts i = S := ⟨_, rfl⟩
      rw [hSe] at hr hnx ⊢
      obtain ⟨hr1, hr2, hr3, hr4⟩ := hr
      have hl2 : (wrt S.now acts[i]).length = ms.length := by rw [wrt_length]; exact hr1
      refine GC.skip ?_
      refine GE.seq ?_
      refine GC.seq ?_
      refine GC.block ?_
      refine GC.seq ?_
      refine GC.region ?_
      refine GL.v Wmv ?_
      refine GL.v Wmv ?_
      refine GL.v Wmv ?_
      refine GL.v Wix ?_
      refine GL.v Wle ?_
      refine GL.front (A := row boolE C ms.length S.stp) Wpk ?_
      refine GL.front (A := row intE D e S.now) Wpk ?_
      refine GL.front (A := blk G 95 [.slice A ms.length c, .int .i64 S.opn, .slice D ms.length e, .slice C ms.length ms.length, .int .i64 S.cnt]) Wpk ?_
      refine GL.call rfl rfl (stepOf_spec w0 _ G A ms.length c D e C (gr ms) S acts[i] (gr_length ms) hl10 hr1 hr2 (by omega) (by omega) (hv3 _ (List.getElem_mem hil))) ?_
      rintro _ _ ⟨rfl, rfl⟩
      refine GL.nil ?_
      refine GE.seq ?_
      refine GC.ifs (fun h3 => ?_) (fun h3 => ?_)
      · -- FTT
        refine GC.region ?_
        refine GL.v Wmv ?_
        refine GL.v Wnc ?_
        refine GL.v Wfa ?_
        refine GL.v Wlb ?_
        refine GL.call rfl rfl (Tr.lenO (show ms.length = (S.step acts[i]).now.length from hl2.symm) (copyInts_spec _ _ _ _ (S.step acts[i]).now Wrd (by rw [show (S.step acts[i]).now.length = ms.length from hl2]; omega))) ?_
        rintro _ _ ⟨B36, d36, rfl, rfl⟩
        refine GL.v Wag ?_
        refine GL.nil ?_
        refine GE.block ?_
        refine GE.seq ?_
        refine GC.region ?_
        refine GL.v Wmv ?_
        refine GL.v Wad ?_
        refine GL.v Wag ?_
        refine GL.nil ?_
        -- round of loop 1, path FTT
        have hls : (S.step acts[i]).lst = (S.step acts[i]).now := by rw [step_lst, h3, if_pos rfl]; rfl
        refine GE.round (i + 1, B36, d36) (by dsimp only; omega) (by dsimp only; omega) (by dsimp only; rw [hnx, hls]; exact Wkp) (by dsimp only; rw [hnx, hls]; exact Wsb)
      · -- FTF
        refine GC.skip ?_
        refine GE.block ?_
        refine GE.seq ?_
        refine GC.region ?_
        refine GL.v Wmv ?_
        refine GL.v Wad ?_
        refine GL.v Wag ?_
        refine GL.nil ?_
        -- round of loop 1, path FTF
        have hls : (S.step acts[i]).lst = S.lst := by rw [step_lst, h3, if_neg (by decide)]
        refine GE.round (i + 1, K, k) (by dsimp only; omega) (by dsimp only; omega) (by dsimp only; rw [hnx, hls]; exact Wkp) (by dsimp only; rw [hnx, hls]; exact Wsb)
    · -- FF
      obtain rfl : i = acts.length := by omega
      have hy := aftL_yes h1
      rw [gr_length] at hy
      refine GC.exit ?_
      refine GE.seq_exit ?_
      refine GE.loop_exit ?_
      refine GE.block_exit ?_
      refine GE.seq ?_
      refine GC.seq ?_
      refine GC.region ?_
      refine GL.v Wmv ?_
      refine GL.v Wag ?_
      refine GL.nil ?_
      refine GE.seq ?_
      refine GC.ret ?_
      -- returns, path FF
      refine GE.ret_tmp (L' := row intE K k (runA (ses0 ms.length xs) acts acts.length).lst :: L) (.inl rfl) rfl rfl Wsb ?_
      rw [hy]
      exact ⟨K, k, rfl, rfl⟩
end SG
