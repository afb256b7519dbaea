/- Contracts: which nodes; heights; ways in graphs; of the program. -/
import Derived.Test.YtojffodplphlaaaD8
import Derived.Test.YtojffodplphlaaaD12
import Derived.Test.YtojffodplphlaaaPB
namespace SG
open Go Go.RowKit Go.Proofs
set_option linter.unusedVariables false
set_option linter.unusedSimpArgs false
set_option maxRecDepth 100000
instance : TyOk Try.prog 79 false 1 [.nilFunc] := ⟨by kernel_rfl, by kernel_rfl⟩
/-- what a function of nodes tells, wherever the state leads to L -/
def Tells (F : FuncId) (first captured : Array Value) (w0 : World) (L : List Asn) (n : Nat) (p : Nat → Bool) : Prop :=
  ∀ X, Imp w0 X L → ∀ i, i < n → Tr Try.prog F (first ++ #[.int .i64 i] ++ captured) w0 X (fun v L' => v = .bool (p i) ∧ L' = X)
theorem which_spec (w0 : World) (L : List Asn) (A : Option Addr) (n c : Nat) (hn : n ≤ 1100000) (F : FuncId) [FnOk Try.prog F] (first captured : Array Value) (p : Nat → Bool) (hF : Tells F first captured w0 L n p) :
    Tr Try.prog 74 #[.agg #[.slice A n c], .func (.func F) first captured] w0 L (fun v L' => ∃ B, v = .slice B (whichL n p).length (whichL n p).length ∧ L' = row intE B (whichL n p).length (whichL n p) :: L) := by
  have hwl := whichL_length n p
  refine Tr.enter (args := [.agg #[.slice A n c], .func (.func F) first captured]) Try.func74 Try.ntmps74 rfl rfl ?_
  refine GC.seq ?_
  refine GC.region ?_
  refine GL.box_agg rfl rfl ?_; intro g2
  refine GL.v Wag ?_
  refine GL.nil ?_
  refine GE.seq ?_
  refine GC.seq ?_
  refine GC.region ?_
  refine GL.v Wag ?_
  refine GL.nil ?_
  refine GE.seq ?_
  refine GC.seq ?_
  refine GC.seq ?_
  refine GC.region ?_
  refine GL.v Wfa ?_
  refine GL.v Wlb ?_
  refine GL.v Wln ?_
  refine GL.v Wmv ?_
  refine GL.nil ?_
  refine GE.seq ?_
  refine GC.block ?_
  -- loop 1: carried slots [5, 10]
  refine GC.state (fun _ hs => hs.empty intE none) ?_
  refine GC.loopK (α := Nat × Option Addr × Nat) (fun x => x.1 ≤ n) (fun x => [(5, .slice x.2.1 (whichL x.1 p).length x.2.2), (10, .int .i64 x.1)]) [(1, _), (9, _)] (fun x => row intE x.2.1 x.2.2 (whichL x.1 p) :: blk g2 25 [.slice A n c] :: L) (fun x => n - x.1) (0, none, 0) Wkp Wsb (Nat.zero_le _) ?_
  rintro ⟨i, B, d⟩ hi
  dsimp only at hi ⊢
  have hil := whichL_length i p
  refine GC.seq ?_
  refine GC.region ?_
  refine GL.v Wls ?_
  refine GL.nil ?_
  refine GE.seq ?_
  refine GC.seq ?_
  refine GC.ifs (fun h1 => ?_) (fun h1 => ?_)
  · -- T
    have hin : i < n := by omega
    refine GC.skip ?_
    refine GE.seq ?_
    refine GC.seq ?_
    refine GC.block ?_
    refine GC.seq ?_
    refine GC.region ?_
    refine GL.v Wmv ?_
    refine GL.v Wag ?_
    refine GL.nil ?_
    refine GE.seq ?_
    refine GC.seq ?_
    refine GC.region ?_
    refine GL.v Wmv ?_
    refine GL.v Wmv ?_
    refine GL.callQ rfl rfl rfl (hF _ Wim i hin) ?_
    refine GL.nil ?_
    refine GE.seq ?_
    refine GC.ifs (fun h2 => ?_) (fun h2 => ?_)
    · -- TT
      refine GC.region ?_
      refine GL.v Wmv ?_
      refine GL.v Wmv ?_
      refine GL.buildSlice rfl (by first | exact bsInt0 | exact bsInt1 _ | exact bsInt2 _ _ | exact bsInt3 _ _ _ | exact bsInt4 _ _ _ _ | exact bsInt5 _ _ _ _ _ | exact bsInt6 _ _ _ _ _ _ | exact bsInt7 _ _ _ _ _ _ _ | exact bsInt8 _ _ _ _ _ _ _ _ | exact bsInt9 _ _ _ _ _ _ _ _ _ | exact bsInt10 _ _ _ _ _ _ _ _ _ _ | exact bsPart0 | exact bsPart1 ⟨_, _, _, _, _⟩ | exact bsNode1 ⟨_, _, _, _⟩ | exact bsPtr3 _ _ _ | exact bsSl0 | exact bsSl1 ⟨_, _, _⟩) rfl (by decide) rfl ?_; intro g18
      first | (refine GL.append rfl rfl Wpk (by assumption) Wim (by first | rfl | (simp; done) | (simp; omega)) (by first | rfl | (simp; done) | (simp; omega)) (by first | omega | (simp; omega)) (by first | omega | (simp; omega)) rfl ?_; intro A19 c19) | (refine GL.append rfl rfl Wpk (Rd.of_pick Wpk) Imp.refl (by first | rfl | (simp; done) | (simp; omega)) (by first | rfl | (simp; done) | (simp; omega)) (by first | omega | (simp; omega)) (by first | omega | (simp; omega)) rfl ?_; intro A19 c19)
      refine GL.v Wag ?_
      refine GL.nil ?_
      refine GE.block ?_
      refine GE.seq ?_
      refine GC.region ?_
      refine GL.v Wad ?_
      refine GL.v Wmv ?_
      refine GL.nil ?_
      -- round of loop 1, path TT
      rw [whichL_yes h2]
      refine GE.round (i + 1, _, _) (by dsimp only; omega) (by dsimp only; omega) Wkp Wsb
    · -- TF
      refine GC.skip ?_
      refine GE.block ?_
      refine GE.seq ?_
      refine GC.region ?_
      refine GL.v Wad ?_
      refine GL.v Wmv ?_
      refine GL.nil ?_
      -- round of loop 1, path TF
      rw [whichL_no h2]
      refine GE.round (i + 1, B, d) (by dsimp only; omega) (by dsimp only; omega) Wkp Wsb
  · -- F
    obtain rfl : n = i := by omega
    refine GC.exit ?_
    refine GE.seq_exit ?_
    refine GE.loop_exit ?_
    refine GE.block_exit ?_
    refine GE.seq ?_
    refine GC.seq ?_
    refine GC.region ?_
    refine GL.v Wmv ?_
    refine GL.row_cap (E := intE) (A := B) Wpk fun hc1 hc2 => ?_
    refine GL.callF rfl rfl (ClipInt_spec _ _ _ _ _ Wom) ?_
    refine GL.row_clip (E := intE) (A := B) Wpk ?_
    refine GL.v Wag ?_
    refine GL.nil ?_
    refine GE.seq ?_
    refine GC.ret ?_
    -- returns, path F
    refine GE.ret_tmp (L' := row intE B (whichL n p).length (whichL n p) :: L) (.inl rfl) rfl rfl Wsb ?_
    exact ⟨B, rfl, rfl⟩
theorem uses_spec (w0 : World) (L : List Asn) (A : Option Addr) (c : Nat) (ms : List NdM) (hG : RdG w0 L A c ms) (hV : ValidG (gr ms)) (i : Nat) (hi : i < ms.length) (n : Int) :
    Tr Try.prog 79 #[.agg #[.slice A ms.length c], .int .i64 i, .int .i64 n] w0 L (fun v L' => v = .bool (usesB (gr ms) n i) ∧ L' = L) := by
  have hN := hG.nodes
  have hP := hG.parts i hi
  have hig : i < (gr ms).length := by simpa using hi
  have hnd := validG_node hV hig
  rw [gr_get] at hnd
  have hp12 : ms[i].parts.length ≤ 12 := hnd.1
  have hf : ReadsFit ms[i].parts := hnd.2
  have hml := mayL_length ms[i].parts
  refine Tr.enter (args := [.agg #[.slice A ms.length c], .int .i64 i, .int .i64 n]) Try.func79 Try.ntmps79 rfl rfl ?_
  refine GC.seq ?_
  refine GC.region ?_
  refine GL.box_agg rfl rfl ?_; intro g3
  refine GL.v Wag ?_
  refine GL.nil ?_
  refine GE.seq ?_
  refine GC.seq ?_
  refine GC.region ?_
  refine GL.v Wfa ?_
  refine GL.v Wlb ?_
  refine GL.v Wmv ?_
  refine GL.v Wix ?_
  refine GL.v Wfa ?_
  refine GL.v Wlef1 ?_
  refine GL.call rfl rfl (mayRead_spec _ _ _ _ _ Wrd Wom (by assumption)) ?_
  rintro _ _ ⟨B13, rfl, rfl⟩
  refine GL.v Wmv ?_
  refine GL.callF rfl rfl (Contains_spec _ _ _ _ _ Wrd Wom _) ?_
  refine GL.v Wag ?_
  refine GL.nil ?_
  refine GE.seq ?_
  refine GC.ret ?_
  -- returns, path 
  refine GE.ret_tmp (L' := L) (.inl rfl) rfl rfl Wsb ?_
  exact ⟨by rw [usesB, mayAt_eq hig, gr_get]; rfl, rfl⟩
theorem UsersOf1_spec (w0 : World) (L : List Asn) (g h : Nat) (A : Option Addr) (c : Nat) (ms : List NdM) (hG : RdG w0 L A c ms) (hV : ValidG (gr ms)) (n : Int) (hbg : BlkRd w0 L g 25 [.slice A ms.length c]) (hbn : BlkRd w0 L h 3 [.int .i64 n]) (i : Nat) (hi : i < ms.length) :
    Tr Try.prog 78 #[.int .i64 i, .pointer (some ⟨g, 0, none⟩), .pointer (some ⟨h, 0, none⟩)] w0 L (fun v L' => v = .bool (usesB (gr ms) n i) ∧ L' = L) := by
  refine Tr.enter (args := [.int .i64 i, .pointer (some ⟨g, 0, none⟩), .pointer (some ⟨h, 0, none⟩)]) Try.func78 Try.ntmps78 rfl rfl ?_
  refine GC.seq ?_
  refine GC.region ?_
  refine GL.v Wag ?_
  refine GL.nil ?_
  refine GE.seq ?_
  refine GC.seq ?_
  refine GC.region ?_
  refine GL.v Wlba ?_
  refine GL.v Wmv ?_
  refine GL.v Wlb ?_
  refine GL.callF rfl rfl (uses_spec _ _ _ _ _ (by first | assumption | exact RdG.imp (by assumption) Wim | exact RdG.of_pick Wpk Wpk) hV i hi n) ?_
  refine GL.v Wag ?_
  refine GL.nil ?_
  refine GE.seq ?_
  refine GC.ret ?_
  -- returns, path 
  refine GE.ret_tmp (L' := L) (.inl rfl) rfl rfl Wsb ?_
  exact ⟨rfl, rfl⟩
theorem iUsersOf_spec (w0 : World) (L : List Asn) (A : Option Addr) (c : Nat) (ms : List NdM) (hG : RdG w0 L A c ms) (hl : ms.length ≤ 1100000) (n : Int) :
    Tr Try.prog 25 #[.agg #[.slice A ms.length c], .int .i64 n] w0 L (fun v L' => ∃ B d, v = .slice B (usersL (gr ms) n).length d ∧ L' = row intE B d (usersL (gr ms) n) :: L) := by
  have hN := hG.nodes
  refine Tr.enter (args := [.agg #[.slice A ms.length c], .int .i64 n]) Try.func25 Try.ntmps25 rfl rfl ?_
  refine GC.seq ?_
  refine GC.region ?_
  refine GL.box_agg rfl rfl ?_; intro g2
  refine GL.box_one rfl rfl rfl ?_; intro g3
  refine GL.v Wag ?_
  refine GL.nil ?_
  refine GE.seq ?_
  refine GC.seq ?_
  refine GC.seq ?_
  refine GC.region ?_
  refine GL.v Wlba ?_
  refine GL.callF rfl rfl (iValidGraph_spec _ _ _ _ _ (by first | assumption | exact RdG.imp (by assumption) Wim | exact RdG.of_pick Wpk Wpk) (by first | omega | exact SizeG.le (by assumption))) ?_
  refine GL.v Wnt ?_
  refine GL.v Wmv ?_
  refine GL.gs (fun h1 => ?_) (fun h1 => ?_)
  · -- t
    refine GL.unwant rfl rfl rfl rfl ?_
    refine GL.unwant rfl rfl rfl rfl ?_
    refine GL.unwant rfl rfl rfl rfl ?_
    refine GL.unwant rfl rfl rfl rfl ?_
    refine GL.v Wpt ?_
    refine GL.nil ?_
    refine GE.seq ?_
    refine GC.cond_true rfl ?_
    refine GC.seq ?_
    refine GC.region ?_
    refine GL.v Wag ?_
    refine GL.nil ?_
    refine GE.seq ?_
    refine GC.ret ?_
    refine GE.seq_ret ?_
    -- returns, path t
    refine GE.state (fun _ hs => hs.empty intE none) ?_
    refine GE.ret_tmp (L' := row intE none 0 [] :: L) (.inl rfl) rfl rfl Wsb ?_
    rw [usersL, onlyL_no h1]
    exact ⟨none, 0, rfl, rfl⟩
  · -- f
    refine GL.want rfl rfl ?_
    refine GL.v Wlba ?_
    refine GL.want rfl rfl ?_
    refine GL.v Wlb ?_
    refine GL.want rfl rfl ?_
    refine GL.callF rfl rfl (has_spec _ _ _ _ _ _ (by first | omega | exact SizeG.le (by assumption))) ?_
    refine GL.want rfl rfl ?_
    refine GL.v Wnt ?_
    refine GL.v Wpf ?_
    refine GL.nil ?_
    refine GE.seq ?_
    refine GC.ifs (fun h2 => ?_) (fun h2 => ?_)
    · -- fT
      refine GC.seq ?_
      refine GC.region ?_
      refine GL.v Wag ?_
      refine GL.nil ?_
      refine GE.seq ?_
      refine GC.ret ?_
      refine GE.seq_ret ?_
      -- returns, path fT
      refine GE.state (fun _ hs => hs.empty intE none) ?_
      refine GE.ret_tmp (L' := row intE none 0 [] :: L) (.inl rfl) rfl rfl Wsb ?_
      rw [usersL, onlyL_out (by simpa using h2)]
      exact ⟨none, 0, rfl, rfl⟩
    · -- fF
      have hV := validG_iff.1 h1
      refine GC.skip ?_
      refine GE.seq ?_
      refine GC.seq ?_
      refine GC.region ?_
      refine GL.v Wlba ?_
      refine GL.v (by exact EvP.r (Ev.makeFunc rfl rfl)) ?_
      refine GL.call rfl rfl (which_spec w0 _ A ms.length c hl 78 #[] #[.pointer (some ⟨g2, 0, none⟩), .pointer (some ⟨g3, 0, none⟩)] (usesB (gr ms) n) (fun X hX i hi => UsersOf1_spec _ _ g2 g3 A c ms (hG.imp (hX.trans Wim)) hV n ((BlkRd.of_pick Wpk).imp hX) ((BlkRd.of_pick Wpk).imp hX) i hi)) ?_
      rintro _ _ ⟨B, rfl, rfl⟩
      refine GL.v Wag ?_
      refine GL.nil ?_
      refine GE.seq ?_
      refine GC.ret ?_
      -- returns, path fF
      refine GE.ret_tmp (L' := row intE B (whichL ms.length (usesB (gr ms) n)).length (whichL ms.length (usesB (gr ms) n)) :: L) (.inl rfl) rfl rfl Wsb ?_
      rw [usersL, onlyL_yes h1 (by simpa using h2), gr_length]
      exact ⟨_, _, rfl, rfl⟩
theorem reach_spec (w0 : World) (L : List Asn) (A : Option Addr) (c : Nat) (ms : List NdM) (hG : RdG w0 L A c ms) (hV : ValidG (gr ms)) (n : Nat) (hn : n < ms.length) :
    Tr Try.prog 76 #[.agg #[.slice A ms.length c], .int .i64 n] w0 L (fun v L' => ∃ B d, v = .slice B (reachL (gr ms) n).length d ∧ L' = row boolE B d (reachL (gr ms) n) :: L) := by
  have hN := hG.nodes
  have hl10 : ms.length ≤ 10 := by have := hV.1; simpa using this
  refine Tr.enter (args := [.agg #[.slice A ms.length c], .int .i64 n]) Try.func76 Try.ntmps76 rfl rfl ?_
  refine GC.seq ?_
  refine GC.region ?_
  refine GL.box_agg rfl rfl ?_; intro g2
  refine GL.v Wag ?_
  refine GL.nil ?_
  refine GE.seq ?_
  refine GC.seq ?_
  refine GC.region ?_
  refine GL.v Wlba ?_
  refine GL.callF rfl rfl (size_spec _ _ _ _ _) ?_
  refine GL.make rfl rfl Wik Wik (by omega) (by omega) rfl ?_; intro g11
  refine GL.v Wag ?_
  refine GL.nil ?_
  refine GE.seq ?_
  refine GC.seq ?_
  refine GC.region ?_
  refine GL.v Wmv ?_
  refine GL.v Wmv ?_
  refine GL.v Wix ?_
  refine GL.store_el rfl rfl Wpk rfl rfl rfl (by first | omega | (simp; done) | (simp; omega)) ?_
  refine GL.nil ?_
  refine GE.seq ?_
  refine GC.seq ?_
  refine GC.seq ?_
  refine GC.region ?_
  refine GL.v Wmv ?_
  refine GL.v Wad ?_
  refine GL.v Wag ?_
  refine GL.nil ?_
  refine GE.seq ?_
  refine GC.block ?_
  -- loop 1: carried slots [6]
  rw [upL_reach hV hn]
  refine GC.loopK (α := Nat) (fun i => n < i ∧ i ≤ ms.length) (fun i => [(6, .int .i64 i)]) [(2, _), (5, _)] (fun i => row boolE (some ⟨g11, 0, none⟩) ms.length (upL ms.length i (reachB (gr ms) n) false) :: blk g2 25 [.slice A ms.length c] :: L) (fun i => ms.length - i) (n + 1) Wkp Wsb ⟨by omega, by omega⟩ ?_
  rintro i ⟨hni, hi⟩
  refine GC.seq ?_
  refine GC.seq ?_
  refine GC.region ?_
  refine GL.v Wmv ?_
  refine GL.v Wlba ?_
  refine GL.callF rfl rfl (size_spec _ _ _ _ _) ?_
  refine GL.v Wls ?_
  refine GL.nil ?_
  refine GE.seq ?_
  refine GC.ifs (fun h1 => ?_) (fun h1 => ?_)
  · -- T
    have hil : i < ms.length := by omega
    have hP := hG.parts i hil
    have hig : i < (gr ms).length := by simpa using hil
    have hnd := validG_node hV hig
    rw [gr_get] at hnd
    have hp12 : ms[i].parts.length ≤ 12 := hnd.1
    have hf : ReadsFit ms[i].parts := hnd.2
    have hma : mayAt (gr ms) i = mayL ms[i].parts := by rw [mayAt_eq hig, gr_get]; rfl
    have hml := mayL_length ms[i].parts
    refine GC.skip ?_
    refine GE.seq ?_
    refine GC.seq ?_
    refine GC.block ?_
    refine GC.seq ?_
    refine GC.region ?_
    refine GL.v Wfa ?_
    refine GL.v Wlb ?_
    refine GL.v Wmv ?_
    refine GL.v Wix ?_
    refine GL.v Wfa ?_
    refine GL.v Wlef1 ?_
    refine GL.call rfl rfl (mayRead_spec _ _ _ _ _ Wrd Wom (by assumption)) ?_
    rintro _ _ ⟨B29, rfl, rfl⟩
    refine GL.v Wln ?_
    refine GL.v Wmv ?_
    refine GL.nil ?_
    refine GE.seq ?_
    refine GC.block ?_
    -- loop 2: carried slots [31]
    refine GC.loopK (α := Nat) (fun t => t ≤ (mayL ms[i].parts).length) (fun t => [(31, .int .i64 t)]) [(2, _), (5, _), (6, _), (29, _), (30, _)] (fun t => row boolE (some ⟨g11, 0, none⟩) ms.length ((upL ms.length i (reachB (gr ms) n) false).set i (((mayL ms[i].parts).take t).any fun k => reachB (gr ms) n k.toNat)) :: row intE B29 (mayL ms[i].parts).length (mayL ms[i].parts) :: blk g2 25 [.slice A ms.length c] :: L) (fun t => (mayL ms[i].parts).length - t) 0 Wkp (by rw [show (((mayL ms[i].parts).take 0).any fun k => reachB (gr ms) n k.toNat) = false from rfl, upL_set0 hil]; exact Wsb) (Nat.zero_le _) ?_
    rintro t ht
    have hul : ((upL ms.length i (reachB (gr ms) n) false).set i (((mayL ms[i].parts).take t).any fun k => reachB (gr ms) n k.toNat)).length = ms.length := by simp
    refine GC.seq ?_
    refine GC.region ?_
    refine GL.v Wls ?_
    refine GL.nil ?_
    refine GE.seq ?_
    refine GC.seq ?_
    refine GC.ifs (fun h2 => ?_) (fun h2 => ?_)
    · -- TT
      have htl : t < (mayL ms[i].parts).length := by omega
      have hk := mayAt_lt hV (i := i) (by rw [hma]; exact List.getElem_mem htl)
      have hlk : ((upL ms.length i (reachB (gr ms) n) false).set i (((mayL ms[i].parts).take t).any fun k => reachB (gr ms) n k.toNat))[((mayL ms[i].parts)[t]).toNat]'(by omega) = reachB (gr ms) n ((mayL ms[i].parts)[t]).toNat := upL_at (by omega) hil _
      have hli : ((upL ms.length i (reachB (gr ms) n) false).set i (((mayL ms[i].parts).take t).any fun k => reachB (gr ms) n k.toNat))[i]'(by omega) = (((mayL ms[i].parts).take t).any fun k => reachB (gr ms) n k.toNat) := upL_self _
      have hmx := any_take_succ (p := fun k => reachB (gr ms) n k.toNat) htl
      have heq : ∀ v, v = (((mayL ms[i].parts).take (t + 1)).any fun k => reachB (gr ms) n k.toNat) → ((upL ms.length i (reachB (gr ms) n) false).set i (((mayL ms[i].parts).take t).any fun k => reachB (gr ms) n k.toNat)).set i v = (upL ms.length i (reachB (gr ms) n) false).set i (((mayL ms[i].parts).take (t + 1)).any fun k => reachB (gr ms) n k.toNat) := fun v hv => by rw [hv, upL_again]
      refine GC.skip ?_
      refine GE.seq ?_
      refine GC.seq ?_
      refine GC.block ?_
      refine GC.seq ?_
      refine GC.region ?_
      refine GL.v Wix ?_
      refine GL.v Wle ?_
      refine GL.v Wag ?_
      refine GL.nil ?_
      refine GE.seq ?_
      refine GC.region ?_
      refine GL.v Wmv ?_
      refine GL.v Wmv ?_
      refine GL.v Wmv ?_
      refine GL.v Wmv ?_
      refine GL.v Wix ?_
      refine GL.v Wle ?_
      refine GL.v Wmv ?_
      refine GL.gs (fun h3 => ?_) (fun h3 => ?_)
      · -- TTt
        refine GL.unwant rfl rfl rfl rfl ?_
        refine GL.unwant rfl rfl rfl rfl ?_
        refine GL.unwant rfl rfl rfl rfl ?_
        refine GL.unwant rfl rfl rfl rfl ?_
        refine GL.v Wpt ?_
        refine GL.v Wix ?_
        refine GL.store_el rfl rfl Wpk rfl rfl rfl (by first | omega | (simp; done) | (simp; omega)) ?_
        refine GL.nil ?_
        refine GE.block ?_
        refine GE.seq ?_
        refine GC.region ?_
        refine GL.v Wad ?_
        refine GL.v Wmv ?_
        refine GL.nil ?_
        -- round of loop 2, path TTt
        rw [hli] at h3
        rw [heq]
        · refine GE.round (t + 1) (by omega) (by omega) Wkp Wsb
        · rw [hmx, h3]; rfl
      · -- TTf
        refine GL.want rfl rfl ?_
        refine GL.v Wmv ?_
        refine GL.want rfl rfl ?_
        refine GL.v Wmv ?_
        refine GL.want rfl rfl ?_
        refine GL.v Wix ?_
        refine GL.want rfl rfl ?_
        refine GL.v Wle ?_
        refine GL.v Wpf ?_
        refine GL.v Wix ?_
        refine GL.store_el rfl rfl Wpk rfl rfl rfl (by first | omega | (simp; done) | (simp; omega)) ?_
        refine GL.nil ?_
        refine GE.block ?_
        refine GE.seq ?_
        refine GC.region ?_
        refine GL.v Wad ?_
        refine GL.v Wmv ?_
        refine GL.nil ?_
        -- round of loop 2, path TTf
        rw [hli] at h3
        rw [heq]
        · refine GE.round (t + 1) (by omega) (by omega) Wkp Wsb
        · rw [hmx]; exact hlk.trans (by rw [h3, Bool.false_or])
    · -- TF
      refine GC.exit ?_
      refine GE.seq_exit ?_
      refine GE.loop_exit ?_
      refine GE.block_exit ?_
      refine GE.block ?_
      refine GE.seq ?_
      refine GC.region ?_
      refine GL.v Wmv ?_
      refine GL.v Wad ?_
      refine GL.v Wag ?_
      refine GL.nil ?_
      -- round of loop 1, path TF
      have hte : t = (mayL ms[i].parts).length := by omega
      have hn1 : (upL ms.length i (reachB (gr ms) n) false).set i (((mayL ms[i].parts).take t).any fun k => reachB (gr ms) n k.toNat) = upL ms.length (i + 1) (reachB (gr ms) n) false := by
        rw [hte, List.take_length, ← hma, ← reach_any hV hni, upL_set hil]
      rw [hn1]
      refine GE.round (i + 1) ⟨by omega, by omega⟩ (by omega) Wkp Wsb
  · -- F
    have hie : i = ms.length := by omega
    subst hie
    rw [upL_full (Nat.le_refl ms.length), show (List.range ms.length).map (reachB (gr ms) n) = reachL (gr ms) n by rw [reachL, gr_length]]
    refine GC.exit ?_
    refine GE.seq_exit ?_
    refine GE.loop_exit ?_
    refine GE.block_exit ?_
    refine GE.seq ?_
    refine GC.seq ?_
    refine GC.region ?_
    refine GL.v Wmv ?_
    refine GL.v Wag ?_
    refine GL.nil ?_
    refine GE.seq ?_
    refine GC.ret ?_
    -- returns, path F
    refine GE.ret_tmp (L' := row boolE (some ⟨g11, 0, none⟩) ms.length (reachL (gr ms) n) :: L) (.inl rfl) rfl rfl Wsb ?_
    exact ⟨_, _, by rw [reachL_length, gr_length], rfl⟩
theorem ReachOf1_spec (w0 : World) (L : List Asn) (g : Nat) (B : Option Addr) (d : Nat) (bs : List Bool) (hX : Rd w0 L boolE B d bs) (hb : BlkRd w0 L g 81 [.slice B bs.length d]) (i : Nat) (hi : i < bs.length) :
    Tr Try.prog 90 #[.int .i64 i, .pointer (some ⟨g, 0, none⟩)] w0 L (fun v L' => v = .bool bs[i] ∧ L' = L) := by
  refine Tr.enter (args := [.int .i64 i, .pointer (some ⟨g, 0, none⟩)]) Try.func90 Try.ntmps90 rfl rfl ?_
  refine GC.seq ?_
  refine GC.region ?_
  refine GL.v Wag ?_
  refine GL.nil ?_
  refine GE.seq ?_
  refine GC.seq ?_
  refine GC.region ?_
  refine GL.v Wlb ?_
  refine GL.v Wmv ?_
  refine GL.v Wix ?_
  refine GL.v Wle ?_
  refine GL.v Wag ?_
  refine GL.nil ?_
  refine GE.seq ?_
  refine GC.ret ?_
  -- returns, path 
  refine GE.ret_tmp (L' := L) (.inl rfl) rfl rfl Wsb ?_
  exact ⟨rfl, rfl⟩
theorem NeedOf1_spec (w0 : World) (L : List Asn) (g h : Nat) (A : Option Addr) (c : Nat) (ms : List NdM) (hG : RdG w0 L A c ms) (hV : ValidG (gr ms)) (n : Nat) (hn : n < ms.length) (hbg : BlkRd w0 L g 25 [.slice A ms.length c]) (hbn : BlkRd w0 L h 3 [.int .i64 n]) (i : Nat) (hi : i < ms.length) :
    Tr Try.prog 75 #[.int .i64 i, .pointer (some ⟨g, 0, none⟩), .pointer (some ⟨h, 0, none⟩)] w0 L (fun v L' => v = .bool (reachB (gr ms) i n) ∧ L' = L) := by
  refine Tr.enter (args := [.int .i64 i, .pointer (some ⟨g, 0, none⟩), .pointer (some ⟨h, 0, none⟩)]) Try.func75 Try.ntmps75 rfl rfl ?_
  refine GC.seq ?_
  refine GC.region ?_
  refine GL.v Wag ?_
  refine GL.nil ?_
  refine GE.seq ?_
  refine GC.seq ?_
  refine GC.region_any #[false, false, true, false, false, false, false] mixed ?_
  refine GA.read 0 #[false, true, false, true, false, false, false] rfl (by exact Wlba) rfl rfl (by kernel_rfl) rfl (by kernel_rfl) (by kernel_rfl) (fun _ _ _ h => h) ?_
  refine GA.take 1 #[true, false, false, true, false, false, false] rfl (by exact Ev.move rfl) rfl rfl (by kernel_rfl) rfl (by kernel_rfl) (by kernel_rfl) (fun _ _ _ h => h) ?_
  refine GA.read 3 #[true, true, true, false, false, false, false] rfl (by exact Wlb) rfl rfl (by kernel_rfl) rfl (by kernel_rfl) (by kernel_rfl) (fun _ _ _ h => h) ?_
  refine GA.branch (rs := [2]) (JOk.live (by exact Wlb) (JOk.live (by exact Wlba) JOk.nil)) (by kernel_rfl) (by simp) ?_
  refine GAs.cons rfl ?_ ?_
  · --  op 2
    refine GL.call rfl rfl (reach_spec _ _ _ _ _ (by first | assumption | exact RdG.imp (by assumption) Wim | exact RdG.of_pick Wpk Wpk) hV i hi) ?_
    rintro _ _ ⟨B, d, rfl, rfl⟩
    refine GL.nil ?_
    refine GE.any ?_
    refine GA.read 4 #[true, true, true, true, false, false, false] rfl (by exact Wix) rfl rfl (by kernel_rfl) rfl (by kernel_rfl) (by kernel_rfl) (fun _ _ _ h => h) ?_
    refine GA.read 5 #[true, true, true, true, true, false, false] rfl (by exact Wle) rfl rfl (by kernel_rfl) rfl (by kernel_rfl) (by kernel_rfl) (fun _ _ _ h => h) ?_
    refine GA.take 6 #[true, true, true, true, true, true, false] rfl (by exact Ev.assign rfl) rfl rfl (by kernel_rfl) rfl (by kernel_rfl) (by kernel_rfl) (fun _ _ _ h => h) ?_
    refine GA.done (JOk.live (by exact Wle) (JOk.live (by exact Wix) (JOk.live (by exact Wlb) (JOk.dead (by kernel_rfl) JOk.nil)))) (by kernel_rfl) ?_
    refine GE.seq ?_
    refine GC.ret ?_
    -- returns, path 
    refine GE.ret_tmp (L' := L) (.inl rfl) rfl rfl Wsb ?_
    exact ⟨by rw [reachL_get]; rfl, rfl⟩
  exact GAs.nil
theorem iReachOf_spec (w0 : World) (L : List Asn) (A : Option Addr) (c : Nat) (ms : List NdM) (hG : RdG w0 L A c ms) (hl : ms.length ≤ 1100000) (n : Int) :
    Tr Try.prog 40 #[.agg #[.slice A ms.length c], .int .i64 n] w0 L (fun v L' => ∃ B d, v = .slice B (reachOfL (gr ms) n).length d ∧ L' = row intE B d (reachOfL (gr ms) n) :: L) := by
  have hN := hG.nodes
  refine Tr.enter (args := [.agg #[.slice A ms.length c], .int .i64 n]) Try.func40 Try.ntmps40 rfl rfl ?_
  refine GC.seq ?_
  refine GC.region ?_
  refine GL.box_agg rfl rfl ?_; intro g2
  refine GL.v Wag ?_
  refine GL.nil ?_
  refine GE.seq ?_
  refine GC.seq ?_
  refine GC.seq ?_
  refine GC.region ?_
  refine GL.v Wlba ?_
  refine GL.callF rfl rfl (iValidGraph_spec _ _ _ _ _ (by first | assumption | exact RdG.imp (by assumption) Wim | exact RdG.of_pick Wpk Wpk) (by first | omega | exact SizeG.le (by assumption))) ?_
  refine GL.v Wnt ?_
  refine GL.v Wmv ?_
  refine GL.gs (fun h1 => ?_) (fun h1 => ?_)
  · -- t
    refine GL.unwant rfl rfl rfl rfl ?_
    refine GL.unwant rfl rfl rfl rfl ?_
    refine GL.unwant rfl rfl rfl rfl ?_
    refine GL.unwant rfl rfl rfl rfl ?_
    refine GL.v Wpt ?_
    refine GL.nil ?_
    refine GE.seq ?_
    refine GC.cond_true rfl ?_
    refine GC.seq ?_
    refine GC.region ?_
    refine GL.v Wag ?_
    refine GL.nil ?_
    refine GE.seq ?_
    refine GC.ret ?_
    refine GE.seq_ret ?_
    -- returns, path t
    refine GE.state (fun _ hs => hs.empty intE none) ?_
    refine GE.ret_tmp (L' := row intE none 0 [] :: L) (.inl rfl) rfl rfl Wsb ?_
    rw [reachOfL, onlyL_no h1]
    exact ⟨none, 0, rfl, rfl⟩
  · -- f
    refine GL.want rfl rfl ?_
    refine GL.v Wlba ?_
    refine GL.want rfl rfl ?_
    refine GL.v Wmv ?_
    refine GL.want rfl rfl ?_
    refine GL.callF rfl rfl (has_spec _ _ _ _ _ _ (by first | omega | exact SizeG.le (by assumption))) ?_
    refine GL.want rfl rfl ?_
    refine GL.v Wnt ?_
    refine GL.v Wpf ?_
    refine GL.nil ?_
    refine GE.seq ?_
    refine GC.ifs (fun h2 => ?_) (fun h2 => ?_)
    · -- fT
      refine GC.seq ?_
      refine GC.region ?_
      refine GL.v Wag ?_
      refine GL.nil ?_
      refine GE.seq ?_
      refine GC.ret ?_
      refine GE.seq_ret ?_
      -- returns, path fT
      refine GE.state (fun _ hs => hs.empty intE none) ?_
      refine GE.ret_tmp (L' := row intE none 0 [] :: L) (.inl rfl) rfl rfl Wsb ?_
      rw [reachOfL, onlyL_out (by simpa using h2)]
      exact ⟨none, 0, rfl, rfl⟩
    · -- fF
      have hV := validG_iff.1 h1
      have hn := inB_iff.1 h2
      obtain ⟨k, rfl⟩ : ∃ k : Nat, n = k := ⟨n.toNat, by omega⟩
      refine GC.skip ?_
      refine GE.seq ?_
      refine GC.seq ?_
      refine GC.region ?_
      refine GL.v Wlba ?_
      refine GL.v Wmv ?_
      refine GL.call rfl rfl (reach_spec _ _ _ _ _ (by first | assumption | exact RdG.imp (by assumption) Wim | exact RdG.of_pick Wpk Wpk) hV k (by omega)) ?_
      rintro _ _ ⟨B, d, rfl, rfl⟩
      have hrl := reachL_length (gr ms) k
      rw [gr_length] at hrl
      refine GL.alloc rfl ?_; intro g5
      refine GL.store_var1 rfl rfl rfl Wpk (by rfl) (by rfl) ?_
      refine GL.nil ?_
      refine GE.seq ?_
      refine GC.seq ?_
      refine GC.region ?_
      refine GL.v Wlba ?_
      refine GL.v (by exact EvP.r (Ev.makeFunc rfl rfl)) ?_
      refine GL.call rfl rfl (which_spec w0 _ A ms.length c hl 90 #[] #[.pointer (some ⟨g5, 0, none⟩)] (reachB (gr ms) k) (fun X hX i hi => by have := ReachOf1_spec w0 X g5 B d (reachL (gr ms) k) ((Rd.of_pick Wpk).imp hX) ((BlkRd.of_pick Wpk).imp hX) i (by omega); rw [reachL_get] at this; exact this)) ?_
      rintro _ _ ⟨D, rfl, rfl⟩
      refine GL.v Wag ?_
      refine GL.nil ?_
      refine GE.seq ?_
      refine GC.ret ?_
      -- returns, path fF
      refine GE.ret_tmp (L' := row intE D (whichL ms.length (reachB (gr ms) k)).length (whichL ms.length (reachB (gr ms) k)) :: L) (.inl rfl) rfl rfl Wsb ?_
      rw [reachOfL, onlyL_yes h1 (by simpa using h2), gr_length]
      exact ⟨_, _, rfl, rfl⟩
theorem iNeedOf_spec (w0 : World) (L : List Asn) (A : Option Addr) (c : Nat) (ms : List NdM) (hG : RdG w0 L A c ms) (hl : ms.length ≤ 1100000) (n : Int) :
    Tr Try.prog 19 #[.agg #[.slice A ms.length c], .int .i64 n] w0 L (fun v L' => ∃ B d, v = .slice B (needOfL (gr ms) n).length d ∧ L' = row intE B d (needOfL (gr ms) n) :: L) := by
  have hN := hG.nodes
  refine Tr.enter (args := [.agg #[.slice A ms.length c], .int .i64 n]) Try.func19 Try.ntmps19 rfl rfl ?_
  refine GC.seq ?_
  refine GC.region ?_
  refine GL.box_agg rfl rfl ?_; intro g2
  refine GL.box_one rfl rfl rfl ?_; intro g3
  refine GL.v Wag ?_
  refine GL.nil ?_
  refine GE.seq ?_
  refine GC.seq ?_
  refine GC.seq ?_
  refine GC.region ?_
  refine GL.v Wlba ?_
  refine GL.callF rfl rfl (iValidGraph_spec _ _ _ _ _ (by first | assumption | exact RdG.imp (by assumption) Wim | exact RdG.of_pick Wpk Wpk) (by first | omega | exact SizeG.le (by assumption))) ?_
  refine GL.v Wnt ?_
  refine GL.v Wmv ?_
  refine GL.gs (fun h1 => ?_) (fun h1 => ?_)
  · -- t
    refine GL.unwant rfl rfl rfl rfl ?_
    refine GL.unwant rfl rfl rfl rfl ?_
    refine GL.unwant rfl rfl rfl rfl ?_
    refine GL.unwant rfl rfl rfl rfl ?_
    refine GL.v Wpt ?_
    refine GL.nil ?_
    refine GE.seq ?_
    refine GC.cond_true rfl ?_
    refine GC.seq ?_
    refine GC.region ?_
    refine GL.v Wag ?_
    refine GL.nil ?_
    refine GE.seq ?_
    refine GC.ret ?_
    refine GE.seq_ret ?_
    -- returns, path t
    refine GE.state (fun _ hs => hs.empty intE none) ?_
    refine GE.ret_tmp (L' := row intE none 0 [] :: L) (.inl rfl) rfl rfl Wsb ?_
    rw [needOfL, onlyL_no h1]
    exact ⟨none, 0, rfl, rfl⟩
  · -- f
    refine GL.want rfl rfl ?_
    refine GL.v Wlba ?_
    refine GL.want rfl rfl ?_
    refine GL.v Wlb ?_
    refine GL.want rfl rfl ?_
    refine GL.callF rfl rfl (has_spec _ _ _ _ _ _ (by first | omega | exact SizeG.le (by assumption))) ?_
    refine GL.want rfl rfl ?_
    refine GL.v Wnt ?_
    refine GL.v Wpf ?_
    refine GL.nil ?_
    refine GE.seq ?_
    refine GC.ifs (fun h2 => ?_) (fun h2 => ?_)
    · -- fT
      refine GC.seq ?_
      refine GC.region ?_
      refine GL.v Wag ?_
      refine GL.nil ?_
      refine GE.seq ?_
      refine GC.ret ?_
      refine GE.seq_ret ?_
      -- returns, path fT
      refine GE.state (fun _ hs => hs.empty intE none) ?_
      refine GE.ret_tmp (L' := row intE none 0 [] :: L) (.inl rfl) rfl rfl Wsb ?_
      rw [needOfL, onlyL_out (by simpa using h2)]
      exact ⟨none, 0, rfl, rfl⟩
    · -- fF
      have hV := validG_iff.1 h1
      have hn := inB_iff.1 h2
      obtain ⟨k, rfl⟩ : ∃ k : Nat, n = k := ⟨n.toNat, by omega⟩
      refine GC.skip ?_
      refine GE.seq ?_
      refine GC.seq ?_
      refine GC.region ?_
      refine GL.v Wlba ?_
      refine GL.v (by exact EvP.r (Ev.makeFunc rfl rfl)) ?_
      refine GL.call rfl rfl (which_spec w0 _ A ms.length c hl 75 #[] #[.pointer (some ⟨g2, 0, none⟩), .pointer (some ⟨g3, 0, none⟩)] (fun i => reachB (gr ms) i k) (fun X hX i hi => NeedOf1_spec _ _ g2 g3 A c ms (hG.imp (hX.trans Wim)) hV k (by omega) ((BlkRd.of_pick Wpk).imp hX) ((BlkRd.of_pick Wpk).imp hX) i hi)) ?_
      rintro _ _ ⟨B, rfl, rfl⟩
      refine GL.v Wag ?_
      refine GL.nil ?_
      refine GE.seq ?_
      refine GC.ret ?_
      -- returns, path fF
      refine GE.ret_tmp (L' := row intE B (whichL ms.length (fun i => reachB (gr ms) i k)).length (whichL ms.length (fun i => reachB (gr ms) i k)) :: L) (.inl rfl) rfl rfl Wsb ?_
      rw [needOfL, onlyL_yes h1 (by simpa using h2), gr_length]
      exact ⟨_, _, rfl, rfl⟩
end SG
