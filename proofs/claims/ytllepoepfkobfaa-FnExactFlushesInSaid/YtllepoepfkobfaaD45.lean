/- Contracts: sessions of the program. -/
import Derived.Test.YtllepoepfkobfaaD41
namespace SG
open Go Go.RowKit Go.Proofs
set_option linter.unusedVariables false
set_option linter.unusedSimpArgs false
set_option maxRecDepth 100000
theorem bsBool0 : BsOk Try.prog 89 0 [] boolE [] := ⟨fun w => by kernel_rfl⟩
theorem CloneBool_spec (w0 : World) (L : List Asn) (A : Option Addr) (c : Nat) (ps : List Bool) (hR : Rd w0 L boolE A c ps) (hl : ps.length ≤ 1100000) :
    Tr Try.prog 118 #[.slice A ps.length c] w0 L (fun v L' => ∃ B d, v = .slice B ps.length d ∧ ps.length ≤ d ∧ L' = row boolE B d ps :: L) := by
  refine Tr.enter (args := [.slice A ps.length c]) Try.func118 Try.ntmps118 rfl rfl ?_
  refine GC.seq ?_
  refine GC.region ?_
  refine GL.v Wag ?_
  refine GL.nil ?_
  refine GE.seq ?_
  refine GC.seq ?_
  refine GC.seq ?_
  refine GC.region ?_
  refine GL.v Wmv ?_
  refine GL.v (by exact EvP.r (Ev.eql_nil rfl rfl)) ?_
  refine GL.nil ?_
  refine GE.seq ?_
  refine GC.ifs (fun h1 => ?_) (fun h1 => ?_)
  · -- T
    refine GC.fact (fun w hs => hR.of_none h1 w hs) fun hnil => ?_
    subst hnil
    refine GC.seq ?_
    refine GC.region ?_
    refine GL.v Wag ?_
    refine GL.nil ?_
    refine GE.seq ?_
    refine GC.ret ?_
    refine GE.seq_ret ?_
    -- returns, path T
    refine GE.state (fun _ hs => hs.empty boolE none) ?_
    refine GE.ret_tmp (L' := row boolE none 0 [] :: L) (.inl rfl) rfl rfl Wsb ?_
    exact ⟨none, 0, rfl, Nat.le_refl _, rfl⟩
  · -- F
    refine GC.skip ?_
    refine GE.seq ?_
    refine GC.seq ?_
    refine GC.region ?_
    refine GL.buildSlice rfl (by first | exact bsInt0 | exact bsInt1 _ | exact bsInt2 _ _ | exact bsInt3 _ _ _ | exact bsInt4 _ _ _ _ | exact bsInt5 _ _ _ _ _ | exact bsInt6 _ _ _ _ _ _ | exact bsInt7 _ _ _ _ _ _ _ | exact bsInt8 _ _ _ _ _ _ _ _ | exact bsInt9 _ _ _ _ _ _ _ _ _ | exact bsInt10 _ _ _ _ _ _ _ _ _ _ | exact bsPart0 | exact bsPart1 ⟨_, _, _, _, _⟩ | exact bsNode1 ⟨_, _, _, _⟩ | exact bsPtr3 _ _ _ | exact bsSl0 | exact bsSl1 ⟨_, _, _⟩ | exact bsAct0 | exact bsBool0 | exact bsAct1 ⟨_, _, _⟩) rfl (by decide) rfl ?_; intro g5
    refine GL.v Wmv ?_
    first | (refine GL.append rfl rfl Wpk (by assumption) Wim (by first | rfl | (simp; done) | (simp; omega)) (by first | rfl | (simp; done) | (simp; omega)) (by first | omega | (simp; omega)) (by first | omega | (simp; omega)) rfl ?_; intro A7 c7) | (refine GL.append rfl rfl Wpk (Rd.of_pick Wpk) Imp.refl (by first | rfl | (simp; done) | (simp; omega)) (by first | rfl | (simp; done) | (simp; omega)) (by first | omega | (simp; omega)) (by first | omega | (simp; omega)) rfl ?_; intro A7 c7)
    refine GL.row_cap (E := boolE) (A := A7) (by exact Pick.head) fun hc1 hc2 => ?_
    refine GL.v Wag ?_
    refine GL.nil ?_
    refine GE.seq ?_
    refine GC.ret ?_
    -- returns, path F
    refine GE.ret_tmp (L' := row boolE A7 c7 ([] ++ ps) :: L) (.inl rfl) rfl rfl Wsb ?_
    exact ⟨A7, c7, rfl, hc1, rfl⟩
theorem ClipBool_spec (w0 : World) (L : List Asn) (A : Option Addr) (n c : Nat) (hn : n ≤ c) : Tr Try.prog 117 #[.slice A n c] w0 L (fun v L' => v = .slice A n n ∧ L' = L) := by
  refine Tr.enter (args := [.slice A n c]) Try.func117 Try.ntmps117 rfl rfl ?_
  refine GC.seq ?_
  refine GC.region ?_
  refine GL.v Wag ?_
  refine GL.nil ?_
  refine GE.seq ?_
  refine GC.seq ?_
  refine GC.region ?_
  refine GL.v Wmv ?_
  refine GL.v Wmv ?_
  refine GL.v Wln ?_
  refine GL.v Wmv ?_
  refine GL.v Wln ?_
  refine GL.v (by exact EvP.r (Ev.cut3 rfl rfl rfl Wik Wik (by omega) (by omega))) ?_
  refine GL.v Wag ?_
  refine GL.nil ?_
  refine GE.seq ?_
  refine GC.ret ?_
  -- returns, path 
  refine GE.ret_tmp (L' := L) (.inl rfl) rfl rfl Wsb ?_
  exact ⟨rfl, rfl⟩
theorem cloneBool_spec (w0 : World) (L : List Asn) (A : Option Addr) (c : Nat) (ps : List Bool) (hR : Rd w0 L boolE A c ps) (hl : ps.length ≤ 1100000) :
    Tr Try.prog 94 #[.slice A ps.length c] w0 L (fun v L' => ∃ B, v = .slice B ps.length ps.length ∧ L' = row boolE B ps.length ps :: L) := by
  refine Tr.enter (args := [.slice A ps.length c]) Try.func94 Try.ntmps94 rfl rfl ?_
  refine GC.seq ?_
  refine GC.region ?_
  refine GL.v Wag ?_
  refine GL.nil ?_
  refine GE.seq ?_
  refine GC.seq ?_
  refine GC.region ?_
  refine GL.v Wmv ?_
  refine GL.call rfl rfl (CloneBool_spec _ _ _ _ _ (hR.imp Wim) hl) ?_
  rintro _ _ ⟨B4, d4, rfl, hd4, rfl⟩
  refine GL.callF rfl rfl (ClipBool_spec _ _ _ _ _ hd4) ?_
  refine GL.row_clip (by exact Pick.head) ?_
  refine GL.v Wag ?_
  refine GL.nil ?_
  refine GE.seq ?_
  refine GC.ret ?_
  -- returns, path 
  refine GE.ret_tmp (L' := row boolE B4 ps.length ps :: L) (.inl rfl) rfl rfl Wsb ?_
  exact ⟨B4, rfl, rfl⟩
theorem Tr.lenO {P : Program} {f : FuncId} {B : Option Addr} {n m d : Nat} {w0 : World} {L : List Asn} {R : Value → List Asn → Prop} (h : n = m) (hT : Tr P f #[.slice B m d] w0 L R) : Tr P f #[.slice B n d] w0 L R := by rw [h]; exact hT
theorem dueI_write {opn : Nat} {k : Int} (h : k = 0) : dueB opn k = decide ((opn : Int) = 0) := by
  rw [due_write h]
  exact decide_eq_decide.2 (by omega)
theorem dueI_end {opn : Nat} {k : Int} (h : k = 3) : dueB opn k = decide ((opn : Int) = 1) := by
  rw [due_end h]
  exact decide_eq_decide.2 (by omega)
theorem opnI_end {opn : Nat} {k : Int} (h : k = 3) : ((opnA opn k : Nat) : Int) = if 0 < (opn : Int) - 1 then (opn : Int) - 1 else 0 := by
  rw [opn_end h]
  split <;> omega
theorem opnI_begin {opn : Nat} {k : Int} (h : k = 2) : ((opnA opn k : Nat) : Int) = (opn : Int) + 1 := by
  rw [opn_begin h]; omega
/-- what a flush makes of a state, told by how often it was called, and of its last cells -/
def Flushes {σ : Type} (F : FuncId) (first captured : Array Value) (w0 : World) (L : List Asn) (J : σ → Asn) (I : σ → Nat → List Int → Prop) : Prop :=
  ∀ X, Imp w0 X L → ∀ s n lst, I s n lst → n ≤ 1000000 → ∀ D (now : List Int) C (st : List Bool),
    Tr Try.prog F (first ++ #[.slice D now.length now.length, .slice C st.length st.length] ++ captured) w0 (row intE D now.length now :: row boolE C st.length st :: J s :: X) (fun v L' => ∃ s', I s' (n + 1) now ∧ v = .tuple #[] ∧ L' = J s' :: X)
theorem session_spec {σ : Type} (w0 : World) (L : List Asn) (A : Option Addr) (c : Nat) (ms : List NdM) (hG : RdG w0 L A c ms) (hl10 : ms.length ≤ 10) (B : Option Addr) (d : Nat) (xs : List Int) (hX : Rd w0 L intE B d xs) (hxl : xs.length = ms.length) (E : Option Addr) (f : Nat) (acts : List Act3) (hA : Rd w0 L actE E f acts) (hal : acts.length ≤ 1000) (hok : ∀ a ∈ acts, actB (gr ms) a = true)
    (F : FuncId) [FnOk Try.prog F] (first captured : Array Value) (J : σ → Asn) (I : σ → Nat → List Int → Prop) (hF : Flushes F first captured w0 L J I) (z : σ) (hz : I z 0 xs) :
    Tr Try.prog 61 #[.agg #[.slice A ms.length c], .slice B xs.length d, .slice E acts.length f, .func (.func F) first captured] w0 (J z :: L) (fun v L' => ∃ s, I s (sesE ms.length xs acts).cnt (sesE ms.length xs acts).lst ∧ v = .int .i64 (sesE ms.length xs acts).opn ∧ L' = J s :: L) := by
  have hrun : ∀ k, k ≤ acts.length → (runA (ses0 ms.length xs) acts k).now.length = ms.length ∧ (runA (ses0 ms.length xs) acts k).stp.length = ms.length ∧ (runA (ses0 ms.length xs) acts k).opn ≤ k ∧ (runA (ses0 ms.length xs) acts k).cnt ≤ k := fun k hk => by
    obtain ⟨h1, h2, h3, h4⟩ := runA_now (ses0 ms.length xs) acts k hk
    exact ⟨h1.trans hxl, h2.trans (by simp [ses0]), by simpa [ses0] using h3, by simpa [ses0] using h4⟩
  refine Tr.enter (args := [.agg #[.slice A ms.length c], .slice B xs.length d, .slice E acts.length f, .func (.func F) first captured]) Try.func61 Try.ntmps61 rfl rfl ?_
  refine GC.seq ?_
  refine GC.region ?_
  refine GL.box_agg rfl rfl ?_; intro g4
  refine GL.v Wag ?_
  refine GL.nil ?_
  refine GE.seq ?_
  refine GC.seq ?_
  refine GC.region ?_
  refine GL.v Wmv ?_
  refine GL.call rfl rfl (cloneInt_spec _ _ _ _ _ Wrd Wom) ?_
  rintro _ _ ⟨B16, rfl, rfl⟩
  refine GL.v Wag ?_
  refine GL.nil ?_
  refine GE.seq ?_
  refine GC.seq ?_
  refine GC.region ?_
  refine GL.v Wlba ?_
  refine GL.callF rfl rfl (size_spec _ _ _ _ _) ?_
  refine GL.make rfl rfl Wik Wik (by omega) (by omega) rfl ?_; intro g19
  refine GL.v Wag ?_
  refine GL.nil ?_
  refine GE.seq ?_
  refine GC.seq ?_
  refine GC.region ?_
  refine GL.v Wag ?_
  refine GL.nil ?_
  refine GE.seq ?_
  refine GC.seq ?_
  refine GC.seq ?_
  refine GC.region ?_
  refine GL.v Wmv ?_
  refine GL.v Wln ?_
  refine GL.v Wmv ?_
  refine GL.nil ?_
  refine GE.seq ?_
  refine GC.block ?_
  -- loop 1: carried slots [11, 22]
  refine GC.loopK (α := Nat × σ) (fun x => x.1 ≤ acts.length ∧ I x.2 (runA (ses0 ms.length xs) acts x.1).cnt (runA (ses0 ms.length xs) acts x.1).lst) (fun x => [(11, .int .i64 (runA (ses0 ms.length xs) acts x.1).opn), (22, .int .i64 x.1)]) [(3, _), (9, _), (10, _), (20, _), (21, _)] (fun x => row intE B16 xs.length (runA (ses0 ms.length xs) acts x.1).now :: row boolE (some ⟨g19, 0, none⟩) ms.length (runA (ses0 ms.length xs) acts x.1).stp :: blk g4 25 [.slice A ms.length c] :: J x.2 :: L) (fun x => acts.length - x.1) (0, z) Wkp Wsb ⟨Nat.zero_le _, hz⟩ ?_
  rintro ⟨i, s⟩ ⟨hi, hI⟩
  dsimp only at hi hI ⊢
  have hr := hrun i hi
  refine GC.seq ?_
  refine GC.region ?_
  refine GL.v Wls ?_
  refine GL.nil ?_
  refine GE.seq ?_
  refine GC.seq ?_
  refine GC.ifs (fun h1 => ?_) (fun h1 => ?_)
  · -- T
    have hil : i < acts.length := by omega
    have hnx := runA_succ (ses0 ms.length xs) acts hil
    have hak := act_kind (hok _ (List.getElem_mem hil))
    obtain ⟨a, hae⟩ : ∃ a, acts[i] = a := ⟨_, rfl⟩
    rw [hae] at hnx hak
    obtain ⟨S, hSe⟩ : ∃ S, runA (ses0 ms.length xs) acts i = S := ⟨_, rfl⟩
    rw [hSe] at hI hr hnx ⊢
    obtain ⟨hr1, hr2, hr3, hr4⟩ := hr
    rw [gr_length] at hak
    refine GC.skip ?_
    refine GE.seq ?_
    refine GC.seq ?_
    refine GC.block ?_
    refine GC.seq ?_
    refine GC.region ?_
    refine GL.v Wix ?_
    refine GL.v Wle ?_
    rw [show actE.val acts[i] = .agg #[.int .i64 a.kind, .int .i64 a.node, .int .i64 a.value] by rw [hae]; rfl]
    refine GL.alloc rfl ?_; intro g13
    refine GL.store_varN rfl rfl rfl Wpk (by rfl) (by rfl) (by rfl) ?_
    refine GL.nil ?_
    refine GE.seq ?_
    refine GC.seq ?_
    refine GC.region ?_
    refine GL.v Wag ?_
    refine GL.nil ?_
    refine GE.seq ?_
    -- midseq 8: carried slots [11, 14]
    refine GC.seq_mid (β := Unit) (fun _ => True) (fun _ => [(11, .int .i64 (opnA S.opn a.kind)), (14, .bool (dueB S.opn a.kind))]) [(3, _), (9, _), (10, _), (13, _), (20, _), (21, _), (22, _)] (fun _ => row intE B16 xs.length (wrt S.now a) :: row boolE (some ⟨g19, 0, none⟩) ms.length (stpA S.stp a) :: blk g13 45 [.int .i64 a.kind, .int .i64 a.node, .int .i64 a.value] :: blk g4 25 [.slice A ms.length c] :: J s :: L) Wkp ?_ ?_
    ·
      refine GC.seq ?_
      refine GC.region ?_
      refine GL.v Wfa ?_
      refine GL.v Wlb ?_
      refine GL.nil ?_
      refine GE.seq ?_
      refine GC.block ?_
      refine GC.seq ?_
      refine GC.region ?_
      refine GL.v Weq ?_
      refine GL.v Wag ?_
      refine GL.nil ?_
      refine GE.seq ?_
      refine GC.ifs (fun h2 => ?_) (fun h2 => ?_)
      · -- TT
        refine GC.seq ?_
        refine GC.region ?_
        refine GL.v Wmv ?_
        refine GL.v Wfa ?_
        refine GL.v Wlb ?_
        refine GL.v Wfa ?_
        refine GL.v Wlb ?_
        have hn : 0 ≤ a.node ∧ a.node < ms.length := by
          rcases hak with h | h | h | h
          · have := (cellB_iff.1 h.2.1).1; rw [gr_length] at this; exact this
          · omega
          · omega
          · omega
        refine GL.v Wix ?_
        refine GL.store_el rfl rfl Wpk rfl rfl rfl (by first | omega | (simp; done) | (simp; omega)) ?_
        refine GL.nil ?_
        refine GE.seq ?_
        refine GC.region ?_
        refine GL.v Wmv ?_
        refine GL.v Weq ?_
        refine GL.v Wag ?_
        refine GL.nil ?_
        refine GE.block ?_
        refine GE.mid () trivial (by (try dsimp only); rw [opn_else (by omega) (by omega), dueI_write h2]; exact Wkp) (by (try dsimp only); rw [wrt_yes h2, stp_else (by omega)]; exact Wsb)
      · -- TF
        refine GC.seq ?_
        refine GC.region ?_
        refine GL.v Weq ?_
        refine GL.v Wag ?_
        refine GL.nil ?_
        refine GE.seq ?_
        refine GC.ifs (fun h3 => ?_) (fun h3 => ?_)
        · -- TFT
          refine GC.region ?_
          refine GL.v Wmv ?_
          refine GL.v Wfa ?_
          refine GL.v Wlb ?_
          have hn : 0 ≤ a.node ∧ a.node < ms.length := by
            rcases hak with h | h | h | h
            · omega
            · exact h.2.1
            · omega
            · omega
          refine GL.v Wix ?_
          refine GL.store_el rfl rfl Wpk rfl rfl rfl (by first | omega | (simp; done) | (simp; omega)) ?_
          refine GL.nil ?_
          refine GE.block ?_
          refine GE.mid () trivial (by (try dsimp only); rw [opn_else (by omega) (by omega), due_stop h3]; exact Wkp) (by (try dsimp only); rw [wrt_no (by omega), stp_stop h3]; exact Wsb)
        · -- TFF
          refine GC.seq ?_
          refine GC.region ?_
          refine GL.v Weq ?_
          refine GL.v Wag ?_
          refine GL.nil ?_
          refine GE.seq ?_
          refine GC.ifs (fun h4 => ?_) (fun h4 => ?_)
          · -- TFFT
            refine GC.region ?_
            refine GL.v Wmv ?_
            refine GL.v Wad ?_
            refine GL.v Wag ?_
            refine GL.nil ?_
            refine GE.block ?_
            refine GE.mid () trivial (by (try dsimp only); rw [opnI_begin h4, due_begin h4]; exact Wkp) (by (try dsimp only); rw [wrt_no (by omega), stp_else (by omega)]; exact Wsb)
          · -- TFFF
            refine GC.seq ?_
            refine GC.region ?_
            refine GL.v Weq ?_
            refine GL.v Wag ?_
            refine GL.nil ?_
            refine GE.seq ?_
            refine GC.ifs (fun h5 => ?_) (fun h5 => ?_)
            · -- TFFFT
              refine GC.seq ?_
              refine GC.region ?_
              refine GL.v Wmv ?_
              refine GL.v Weq ?_
              refine GL.v Wag ?_
              refine GL.nil ?_
              refine GE.seq ?_
              refine GC.region ?_
              refine GL.v Wmv ?_
              refine GL.v Wsu ?_
              refine GL.v (by exact EvP.r (Ev.max rfl rfl)) ?_
              refine GL.v Wag ?_
              refine GL.nil ?_
              refine GE.block ?_
              refine GE.mid () trivial (by (try dsimp only); rw [opnI_end h5, dueI_end h5]; exact Wkp) (by (try dsimp only); rw [wrt_no (by omega), stp_else (by omega)]; exact Wsb)
            · -- TFFFF
              omega
    ·
      rintro ⟨⟩ _
      have hwl := wrt_length S.now a
      have hsl := stpA_length S.stp a
      refine GC.seq ?_
      refine GC.region ?_
      refine GL.v Wmv ?_
      refine GL.nil ?_
      refine GE.seq ?_
      refine GC.ifs (fun h2 => ?_) (fun h2 => ?_)
      · -- TT
        refine GC.region ?_
        refine GL.v Wmv ?_
        refine GL.v Wmv ?_
        refine GL.call rfl rfl (Tr.lenO (show xs.length = (wrt S.now a).length by omega) (cloneInt_spec _ _ _ _ (wrt S.now a) Wrd (by omega))) ?_
        rintro _ _ ⟨B58, rfl, rfl⟩
        refine GL.v Wmv ?_
        refine GL.call rfl rfl (Tr.lenO (show ms.length = (stpA S.stp a).length by omega) (cloneBool_spec _ _ _ _ (stpA S.stp a) Wrd (by omega))) ?_
        rintro _ _ ⟨B60, rfl, rfl⟩
        refine GL.front (A := J s) Wpk ?_
        refine GL.front (A := row boolE B60 (stpA S.stp a).length (stpA S.stp a)) Wpk ?_
        refine GL.front (A := row intE B58 (wrt S.now a).length (wrt S.now a)) Wpk ?_
        refine GL.callAny rfl rfl rfl (hF _ Wim s _ _ hI (by omega) B58 (wrt S.now a) B60 (stpA S.stp a)) ?_
        rintro _ _ ⟨s', hI', rfl, rfl⟩
        refine GL.nil ?_
        refine GE.block ?_
        refine GE.seq ?_
        refine GC.region ?_
        refine GL.v Wad ?_
        refine GL.v Wmv ?_
        refine GL.nil ?_
        -- round of loop 1, path TT
        refine GE.round (i + 1, s') ⟨by dsimp only; omega, ?_⟩ (by dsimp only; omega) (by dsimp only; rw [hnx]; exact Wkp) (by dsimp only; rw [hnx]; exact Wsb)
        dsimp only
        rw [hnx, step_cnt, step_lst, h2]
        exact hI'
      · -- TF
        refine GC.skip ?_
        refine GE.block ?_
        refine GE.seq ?_
        refine GC.region ?_
        refine GL.v Wad ?_
        refine GL.v Wmv ?_
        refine GL.nil ?_
        -- round of loop 1, path TF
        refine GE.round (i + 1, s) ⟨by dsimp only; omega, ?_⟩ (by dsimp only; omega) (by dsimp only; rw [hnx]; exact Wkp) (by dsimp only; rw [hnx]; exact Wsb)
        dsimp only
        rw [hnx, step_cnt, step_lst, h2]
        exact hI
  · -- F
    refine GC.exit ?_
    refine GE.seq_exit ?_
    refine GE.loop_exit ?_
    refine GE.block_exit ?_
    refine GE.seq ?_
    refine GC.seq ?_
    refine GC.region ?_
    refine GL.v Wmv ?_
    refine GL.v Wag ?_
    refine GL.nil ?_
    refine GE.seq ?_
    refine GC.ret ?_
    -- returns, path F
    refine GE.ret_tmp (L' := J s :: L) (.inl rfl) rfl rfl Wsb ?_
    obtain rfl : i = acts.length := by omega
    exact ⟨s, hI, rfl, rfl⟩
end SG
