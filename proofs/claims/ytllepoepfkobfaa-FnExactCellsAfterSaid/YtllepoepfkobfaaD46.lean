/- Contracts: flushes, and cells after sessions, of the program. -/
import Derived.Test.YtllepoepfkobfaaD45
namespace SG
open Go Go.RowKit Go.Proofs
set_option linter.unusedVariables false
set_option linter.unusedSimpArgs false
set_option maxRecDepth 100000
theorem Tr.lenS {P : Program} {F : FuncId} {a b e : Value} {B : Option Addr} {n d : Nat} {w0 : World} {L : List Asn} {R : Value → List Asn → Prop} (xs : List Int) (h : n = xs.length) (hT : Tr P F #[a, .slice B xs.length d, b, e] w0 L R) : Tr P F #[a, .slice B n d, b, e] w0 L R := by rw [h]; exact hT
theorem FlushesIn1_spec (w0 : World) (L : List Asn) (g : Nat) : Flushes 63 #[] #[.pointer (some ⟨g, 0, none⟩)] w0 L (fun n : Int => blk g 3 [.int .i64 n]) (fun s n _ => s = (n : Int)) := by
  intro X hX s n lst hI hn D now C st
  subst hI
  refine Tr.enter (args := [.slice D now.length now.length, .slice C st.length st.length, .pointer (some ⟨g, 0, none⟩)]) Try.func63 Try.ntmps63 rfl rfl ?_
  refine GC.region ?_
  refine GL.v Wlb ?_
  refine GL.v Wad ?_
  refine GL.store_var1 rfl rfl rfl Wpk (by rfl) (by rfl) ?_
  refine GL.nil ?_
  -- returns, path 
  refine GE.ret_none (L' := blk g 3 [.int .i64 ((n : Int) + 1)] :: X) (.inr rfl) rfl Wsb ?_
  exact ⟨(n : Int) + 1, by simp, rfl, rfl⟩
theorem iFlushesIn_spec (w0 : World) (L : List Asn) (A : Option Addr) (c : Nat) (ms : List NdM) (hG : RdG w0 L A c ms) (E : Option Addr) (f : Nat) (acts : List Act3) (hA : Rd w0 L actE E f acts) (hl : ms.length ≤ 1100000) (ha : acts.length ≤ 1100000) :
    Tr Try.prog 22 #[.agg #[.slice A ms.length c], .slice E acts.length f] w0 L (fun v L' => v = .tuple #[.int .i64 (flN (gr ms) acts), .int .i64 (flO (gr ms) acts)] ∧ L' = L) := by
  refine Tr.enter (args := [.agg #[.slice A ms.length c], .slice E acts.length f]) Try.func22 Try.ntmps22 rfl rfl ?_
  refine GC.seq ?_
  refine GC.region ?_
  refine GL.box_agg rfl rfl ?_; intro g2
  refine GL.v Wag ?_
  refine GL.v Wag ?_
  refine GL.nil ?_
  refine GE.seq ?_
  refine GC.seq ?_
  refine GC.seq ?_
  refine GC.region ?_
  refine GL.v Wlba ?_
  refine GL.v Wmv ?_
  refine GL.callF rfl rfl (iValidActs_spec _ _ _ _ _ (by first | assumption | exact RdG.imp (by assumption) Wim | exact RdG.of_pick Wpk Wpk) _ _ _ Wrd (by first | omega | exact SizeG.le (by assumption)) Wom) ?_
  refine GL.v Wnt ?_
  refine GL.nil ?_
  refine GE.seq ?_
  refine GC.ifs (fun h1 => ?_) (fun h1 => ?_)
  · -- T
    refine GC.seq ?_
    refine GC.region ?_
    refine GL.v Wag ?_
    refine GL.v Wag ?_
    refine GL.nil ?_
    refine GE.seq ?_
    refine GC.ret ?_
    refine GE.seq_ret ?_
    -- returns, path T
    refine GE.ret_tmp2 (L' := L) (.inl rfl) rfl rfl rfl Wsb ?_
    rw [(fl_no h1).1, (fl_no h1).2]
    exact ⟨rfl, rfl⟩
  · -- F
    obtain ⟨hv1, hv2, hv3⟩ := actsB_iff.1 h1
    have hl10 : ms.length ≤ 10 := by have := (validG_iff.1 hv1).1; simpa using this
    refine GC.skip ?_
    refine GE.seq ?_
    refine GC.seq ?_
    refine GC.region ?_
    refine GL.alloc rfl ?_; intro g6
    refine GL.store_var1 rfl rfl rfl Wpk (by rfl) (by rfl) ?_
    refine GL.nil ?_
    refine GE.seq ?_
    refine GC.seq ?_
    refine GC.region_any #[false, false, true, true, false, false, true, false] mixed ?_
    refine GA.read 0 #[false, true, true, true, true, true, false, false] rfl (by exact Wlba) rfl rfl (by kernel_rfl) rfl (by kernel_rfl) (by kernel_rfl) (fun _ _ _ h => h) ?_
    refine GA.read 1 #[true, false, false, false, true, true, false, false] rfl (by exact Wlba) rfl rfl (by kernel_rfl) rfl (by kernel_rfl) (by kernel_rfl) (fun _ _ _ h => h) ?_
    refine GA.take 4 #[true, true, true, true, false, true, false, false] rfl (by exact Ev.move rfl) rfl rfl (by kernel_rfl) rfl (by kernel_rfl) (by kernel_rfl) (fun _ _ _ h => h) ?_
    refine GA.take 5 #[true, true, true, true, true, false, false, false] rfl (by exact Ev.makeFunc rfl rfl) rfl rfl (by kernel_rfl) rfl (by kernel_rfl) (by kernel_rfl) (fun _ _ _ h => h) ?_
    refine GA.branch (rs := [2]) (JOk.live (by exact Wlba) (JOk.live (by exact Wlba) JOk.nil)) (by kernel_rfl) (by simp) ?_
    refine GAs.cons rfl ?_ ?_
    · -- F op 2
      refine GL.callF rfl rfl (size_spec _ _ _ _ _) ?_
      refine GL.nil ?_
      refine GE.any ?_
      refine GA.branch (rs := [3]) (JOk.dead (by kernel_rfl) (JOk.live (by exact Wlba) JOk.nil)) (by kernel_rfl) (by simp) ?_
      refine GAs.cons rfl ?_ ?_
      · -- F op 3
        refine GL.make rfl rfl Wik Wik (by omega) (by omega) rfl ?_; intro g15
        refine GL.nil ?_
        refine GE.any ?_
        refine GA.branch (rs := [6]) (JOk.dead (by kernel_rfl) (JOk.live (by exact Wlba) JOk.nil)) (by kernel_rfl) (by simp) ?_
        refine GAs.cons rfl ?_ ?_
        · -- F op 6
          refine GL.front (A := blk g6 3 [.int .i64 0]) Wpk ?_
          refine GL.call rfl rfl (Tr.lenS (List.replicate ms.length 0) (by simp) (session_spec w0 _ A c ms (by first | assumption | exact RdG.imp (by assumption) Wim | exact RdG.of_pick Wpk Wpk) hl10 _ _ (List.replicate ms.length 0) Wrd (by simp) _ _ acts Wrd (by omega) hv3 63 #[] #[.pointer (some ⟨g6, 0, none⟩)] (fun n : Int => blk g6 3 [.int .i64 n]) (fun s n _ => s = (n : Int)) (FlushesIn1_spec _ _ _) 0 rfl)) ?_
          rintro _ _ ⟨s, hs, rfl, rfl⟩
          subst hs
          have hy := fl_yes h1
          rw [gr_length] at hy
          refine GL.nil ?_
          refine GE.any ?_
          refine GA.take 7 #[true, true, true, true, true, true, true, false] rfl (by exact Ev.assign rfl) rfl rfl (by kernel_rfl) rfl (by kernel_rfl) (by kernel_rfl) (fun _ _ _ h => h) ?_
          refine GA.done (JOk.dead (by kernel_rfl) (JOk.dead (by kernel_rfl) JOk.nil)) (by kernel_rfl) ?_
          refine GE.seq ?_
          refine GC.seq ?_
          refine GC.region ?_
          refine GL.v Wlb ?_
          refine GL.v Wmv ?_
          refine GL.v Wag ?_
          refine GL.v Wag ?_
          refine GL.nil ?_
          refine GE.seq ?_
          refine GC.ret ?_
          -- returns, path F
          refine GE.ret_tmp2 (L' := L) (.inl rfl) rfl rfl rfl Wsb ?_
          rw [hy.1, hy.2]
          exact ⟨rfl, rfl⟩
        exact GAs.nil
      exact GAs.nil
    exact GAs.nil
theorem sessionFits_spec (w0 : World) (L : List Asn) (A : Option Addr) (c : Nat) (ms : List NdM) (hG : RdG w0 L A c ms) (B : Option Addr) (d : Nat) (xs : List Int) (hX : Rd w0 L intE B d xs) (E : Option Addr) (f : Nat) (acts : List Act3) (hA : Rd w0 L actE E f acts) (hl : ms.length ≤ 1100000) (hx : xs.length ≤ 1100000) (ha : acts.length ≤ 1100000) :
    Tr Try.prog 67 #[.agg #[.slice A ms.length c], .slice B xs.length d, .slice E acts.length f] w0 L (fun v L' => v = .bool (sesB (gr ms) xs acts) ∧ L' = L) := by
  refine Tr.enter (args := [.agg #[.slice A ms.length c], .slice B xs.length d, .slice E acts.length f]) Try.func67 Try.ntmps67 rfl rfl ?_
  refine GC.seq ?_
  refine GC.region ?_
  refine GL.box_agg rfl rfl ?_; intro g3
  refine GL.v Wag ?_
  refine GL.nil ?_
  refine GE.seq ?_
  refine GC.seq ?_
  refine GC.region ?_
  refine GL.v Wlba ?_
  refine GL.v Wmv ?_
  refine GL.callF rfl rfl (iValidCells_spec _ _ _ _ _ (by first | assumption | exact RdG.imp (by assumption) Wim | exact RdG.of_pick Wpk Wpk) _ _ _ Wrd (by first | omega | exact SizeG.le (by assumption)) Wom) ?_
  refine GL.v Wmv ?_
  refine GL.gs (fun h1 => ?_) (fun h1 => ?_)
  · -- t
    refine GL.want rfl rfl ?_
    refine GL.v Wlba ?_
    refine GL.want rfl rfl ?_
    refine GL.v Wmv ?_
    refine GL.want rfl rfl ?_
    refine GL.callF rfl rfl (iValidActs_spec _ _ _ _ _ (by first | assumption | exact RdG.imp (by assumption) Wim | exact RdG.of_pick Wpk Wpk) _ _ _ Wrd (by first | omega | exact SizeG.le (by assumption)) Wom) ?_
    refine GL.v Wpt ?_
    refine GL.v Wag ?_
    refine GL.nil ?_
    refine GE.seq ?_
    refine GC.ret ?_
    -- returns, path t
    refine GE.ret_tmp (L' := L) (.inl rfl) rfl rfl Wsb ?_
    exact ⟨by rw [sesB, show cellsV (gr ms) xs = true from h1]; rfl, rfl⟩
  · -- f
    refine GL.unwant rfl rfl rfl rfl ?_
    refine GL.unwant rfl rfl rfl rfl ?_
    refine GL.unwant rfl rfl rfl rfl ?_
    refine GL.v Wpf ?_
    refine GL.v Wag ?_
    refine GL.nil ?_
    refine GE.seq ?_
    refine GC.ret ?_
    -- returns, path f
    refine GE.ret_tmp (L' := L) (.inl rfl) rfl rfl Wsb ?_
    exact ⟨by rw [sesB, show cellsV (gr ms) xs = false from h1]; rfl, rfl⟩
abbrev aftJ (g : Nat) (s : Option Addr × Nat × List Int) : Asn := Sat [blk g 47 [.slice s.1 s.2.2.length s.2.1], row intE s.1 s.2.1 s.2.2]
theorem CellsAfter1_spec (w0 : World) (L : List Asn) (g : Nat) : Flushes 69 #[] #[.pointer (some ⟨g, 0, none⟩)] w0 L (aftJ g) (fun s _ lst => s.2.2 = lst) := by
  intro X hX s n lst hI hn D now C st
  refine Tr.enter (args := [.slice D now.length now.length, .slice C st.length st.length, .pointer (some ⟨g, 0, none⟩)]) Try.func69 Try.ntmps69 rfl rfl ?_
  refine GC.state (L' := blk g 47 [.slice s.1 s.2.2.length s.2.1] :: row intE s.1 s.2.1 s.2.2 :: row intE D now.length now :: row boolE C st.length st :: X) (fun w hs => (hs.pick (.tail (.tail .head))).flat) ?_
  refine GC.region ?_
  refine GL.v Wmv ?_
  refine GL.store_var1 rfl rfl rfl Wpk (by rfl) (by rfl) ?_
  refine GL.nil ?_
  -- returns, path 
  refine GE.conseq Keeps.refl (show Sub _ (blk g 47 [.slice D now.length now.length] :: row intE D now.length now :: X) from Wsb) ?_
  refine GE.state (L' := aftJ g (D, now.length, now) :: X) (fun w hs => St.fold hs) ?_
  refine GE.ret_none (L' := aftJ g (D, now.length, now) :: X) (.inr rfl) rfl Wsb ?_
  exact ⟨(D, now.length, now), rfl, rfl, rfl⟩
theorem iCellsAfter_spec (w0 : World) (L : List Asn) (A : Option Addr) (c : Nat) (ms : List NdM) (hG : RdG w0 L A c ms) (B : Option Addr) (d : Nat) (xs : List Int) (hX : Rd w0 L intE B d xs) (E : Option Addr) (f : Nat) (acts : List Act3) (hA : Rd w0 L actE E f acts) (hl : ms.length ≤ 1100000) (hx : xs.length ≤ 1100000) (ha : acts.length ≤ 1100000) :
    Tr Try.prog 26 #[.agg #[.slice A ms.length c], .slice B xs.length d, .slice E acts.length f] w0 L (fun v L' => ∃ D e, v = .slice D (aftL (gr ms) xs acts).length e ∧ L' = row intE D e (aftL (gr ms) xs acts) :: L) := by
  refine Tr.enter (args := [.agg #[.slice A ms.length c], .slice B xs.length d, .slice E acts.length f]) Try.func26 Try.ntmps26 rfl rfl ?_
  refine GC.seq ?_
  refine GC.region ?_
  refine GL.box_agg rfl rfl ?_; intro g3
  refine GL.v Wag ?_
  refine GL.nil ?_
  refine GE.seq ?_
  refine GC.seq ?_
  refine GC.seq ?_
  refine GC.region ?_
  refine GL.v Wlba ?_
  refine GL.v Wmv ?_
  refine GL.v Wmv ?_
  refine GL.callF rfl rfl (sessionFits_spec _ _ _ _ _ (by first | assumption | exact RdG.imp (by assumption) Wim | exact RdG.of_pick Wpk Wpk) _ _ _ Wrd _ _ _ Wrd (by first | omega | exact SizeG.le (by assumption)) Wom Wom) ?_
  refine GL.v Wnt ?_
  refine GL.nil ?_
  refine GE.seq ?_
  refine GC.ifs (fun h1 => ?_) (fun h1 => ?_)
  · -- T
    refine GC.seq ?_
    refine GC.region ?_
    refine GL.v Wag ?_
    refine GL.nil ?_
    refine GE.seq ?_
    refine GC.ret ?_
    refine GE.seq_ret ?_
    -- returns, path T
    refine GE.state (fun _ hs => hs.empty intE none) ?_
    refine GE.ret_tmp (L' := row intE none 0 [] :: L) (.inl rfl) rfl rfl Wsb ?_
    rw [aftL_no h1]
    exact ⟨none, 0, rfl, rfl⟩
  · -- F
    obtain ⟨hcv, hav⟩ := sesB_iff.1 h1
    obtain ⟨hv1, hv2, hv3⟩ := actsB_iff.1 hav
    have hl10 : ms.length ≤ 10 := by have := (validG_iff.1 hv1).1; simpa using this
    have hxl := (cellsV_len hcv).1
    rw [gr_length] at hxl
    refine GC.skip ?_
    refine GE.seq ?_
    refine GC.seq ?_
    refine GC.region ?_
    refine GL.v Wmv ?_
    refine GL.call rfl rfl (cloneInt_spec _ _ _ _ _ Wrd Wom) ?_
    rintro _ _ ⟨B14, rfl, rfl⟩
    refine GL.alloc rfl ?_; intro g7
    refine GL.store_var1 rfl rfl rfl Wpk (by rfl) (by rfl) ?_
    refine GL.nil ?_
    refine GE.seq ?_
    refine GC.seq ?_
    refine GC.region ?_
    refine GL.v Wlba ?_
    refine GL.v Wmv ?_
    refine GL.v Wmv ?_
    refine GL.v (by exact EvP.r (Ev.makeFunc rfl rfl)) ?_
    refine GL.front (A := row intE B14 xs.length xs) Wpk ?_
    refine GL.front (A := blk g7 47 [.slice B14 xs.length xs.length]) Wpk ?_
    refine GL.state (L' := aftJ g7 (B14, xs.length, xs) :: blk g3 25 [.slice A ms.length c] :: L) (fun w hs => St.fold hs) ?_
    refine GL.call rfl rfl (session_spec w0 _ A c ms (by first | assumption | exact RdG.imp (by assumption) Wim | exact RdG.of_pick Wpk Wpk) hl10 _ _ xs Wrd hxl _ _ acts Wrd (by omega) hv3 69 #[] #[.pointer (some ⟨g7, 0, none⟩)] (aftJ g7) (fun s _ lst => s.2.2 = lst) (CellsAfter1_spec _ _ _) (B14, xs.length, xs) rfl) ?_
    rintro _ _ ⟨⟨D, e, zs⟩, hs, rfl, rfl⟩
    dsimp only at hs
    subst hs
    refine GL.state (L' := blk g7 47 [.slice D (sesE ms.length xs acts).lst.length e] :: row intE D e (sesE ms.length xs acts).lst :: blk g3 25 [.slice A ms.length c] :: L) (fun w hs => hs.flat) ?_
    have hy := aftL_yes h1
    rw [gr_length] at hy
    refine GL.nil ?_
    refine GE.seq ?_
    refine GC.seq ?_
    refine GC.region ?_
    refine GL.v Wlb ?_
    refine GL.v Wag ?_
    refine GL.nil ?_
    refine GE.seq ?_
    refine GC.ret ?_
    -- returns, path F
    refine GE.ret_tmp (L' := row intE D e (sesE ms.length xs acts).lst :: L) (.inl rfl) rfl rfl Wsb ?_
    rw [hy]
    exact ⟨D, e, rfl, rfl⟩
end SG
