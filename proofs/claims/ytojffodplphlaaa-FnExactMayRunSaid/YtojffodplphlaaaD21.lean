/- Contracts: heights, users and ways in graphs, of the reference. -/
import Derived.Test.YtojffodplphlaaaD8
import Derived.Test.YtojffodplphlaaaD17
import Derived.Test.YtojffodplphlaaaPB
namespace SG
open Go Go.RowKit Go.Proofs
set_option linter.unusedVariables false
set_option linter.unusedSimpArgs false
set_option maxRecDepth 100000
theorem sreach_spec (w0 : World) (L : List Asn) (A : Option Addr) (c : Nat) (ms : List NdM) (hG : RdG w0 L A c ms) (hV : ValidG (gr ms)) (B : Option Addr) (d : Nat) (fs : List Int) (hX : Rd w0 L intE B d fs) (hfl : fs.length ≤ 1100000) (h0 : ∀ o ∈ fs, 0 ≤ o) :
    Tr Try.prog 101 #[.agg #[.slice A ms.length c], .slice B fs.length d] w0 L (fun v L' => ∃ D e, v = .slice D (whichL ms.length (fromB (gr ms) fs)).length e ∧ L' = row intE D e (whichL ms.length (fromB (gr ms) fs)) :: L) := by
  have hN := hG.nodes
  have hl10 : ms.length ≤ 10 := by have := hV.1; simpa using this
  refine Tr.enter (args := [.agg #[.slice A ms.length c], .slice B fs.length d]) Try.func101 Try.ntmps101 rfl rfl ?_
  refine GC.seq ?_
  refine GC.region ?_
  refine GL.box_agg rfl rfl ?_; intro g2
  refine GL.v Wag ?_
  refine GL.nil ?_
  refine GE.seq ?_
  refine GC.seq ?_
  refine GC.region ?_
  refine GL.buildSlice rfl (by first | exact bsInt0 | exact bsInt1 _ | exact bsInt2 _ _ | exact bsInt3 _ _ _ | exact bsInt4 _ _ _ _ | exact bsInt5 _ _ _ _ _ | exact bsInt6 _ _ _ _ _ _ | exact bsInt7 _ _ _ _ _ _ _ | exact bsInt8 _ _ _ _ _ _ _ _ | exact bsInt9 _ _ _ _ _ _ _ _ _ | exact bsInt10 _ _ _ _ _ _ _ _ _ _ | exact bsPart0 | exact bsPart1 ⟨_, _, _, _, _⟩ | exact bsNode1 ⟨_, _, _, _⟩ | exact bsPtr3 _ _ _ | exact bsSl0 | exact bsSl1 ⟨_, _, _⟩) rfl (by decide) rfl ?_; intro g10
  refine GL.v Wag ?_
  refine GL.nil ?_
  refine GE.seq ?_
  refine GC.seq ?_
  refine GC.seq ?_
  refine GC.region ?_
  refine GL.v Wag ?_
  refine GL.nil ?_
  refine GE.seq ?_
  refine GC.block ?_
  -- loop 1: carried slots [5, 6]
  refine GC.loopK (α := Nat × Option Addr × Nat) (fun x => x.1 ≤ ms.length) (fun x => [(5, .slice x.2.1 (whichL x.1 (fromB (gr ms) fs)).length x.2.2), (6, .int .i64 x.1)]) [(1, _), (2, _)] (fun x => row intE x.2.1 x.2.2 (whichL x.1 (fromB (gr ms) fs)) :: blk g2 25 [.slice A ms.length c] :: L) (fun x => ms.length - x.1) (0, some ⟨g10, 0, none⟩, 0) Wkp Wsb (Nat.zero_le _) ?_
  rintro ⟨i, D, e⟩ hi
  dsimp only at hi ⊢
  have hwl := whichL_length i (fromB (gr ms) fs)
  refine GC.seq ?_
  refine GC.seq ?_
  refine GC.region ?_
  refine GL.v Wmv ?_
  refine GL.v Wfa ?_
  refine GL.v Wlb ?_
  refine GL.v Wln ?_
  refine GL.v Wls ?_
  refine GL.nil ?_
  refine GE.seq ?_
  refine GC.ifs (fun h1 => ?_) (fun h1 => ?_)
  · -- T
    have hil : i < ms.length := by omega
    have hP := hG.parts i hil
    have hig : i < (gr ms).length := by simpa using hil
    have hnd := validG_node hV hig
    rw [gr_get] at hnd
    have hp12 : ms[i].parts.length ≤ 12 := hnd.1
    have hma : mayAt (gr ms) i = mayL ms[i].parts := by rw [mayAt_eq hig, gr_get]; rfl
    have hml := mayL_length ms[i].parts
    refine GC.skip ?_
    refine GE.seq ?_
    refine GC.seq ?_
    refine GC.block ?_
    refine GC.seq ?_
    refine GC.region ?_
    refine GL.v Wmv ?_
    refine GL.v Wmv ?_
    refine GL.call rfl rfl (placeIn_spec _ _ _ _ _ Wrd Wom _) ?_
    rintro _ _ ⟨k20, rfl, hk20, e20⟩
    rw [e20]; clear e20
    refine GL.v Wgq ?_
    refine GL.v Wag ?_
    refine GL.nil ?_
    refine GE.seq ?_
    refine GC.seq ?_
    refine GC.region ?_
    refine GL.v Wfa ?_
    refine GL.v Wlb ?_
    refine GL.v Wmv ?_
    refine GL.v Wix ?_
    refine GL.v Wfa ?_
    refine GL.v Wlef1 ?_
    refine GL.call rfl rfl (smayRead_spec _ _ _ _ _ Wrd Wom) ?_
    rintro _ _ ⟨B28, d28, rfl, rfl⟩
    refine GL.v Wag ?_
    refine GL.nil ?_
    refine GE.seq ?_
    refine GC.seq ?_
    refine GC.seq ?_
    refine GC.region ?_
    refine GL.v Wag ?_
    refine GL.nil ?_
    refine GE.seq ?_
    refine GC.block ?_
    -- loop 2: carried slots [7, 9]
    have hc0 : decide (0 ≤ k20) = (fs.contains (i : Int) || ((mayL ms[i].parts).take 0).any fun k => fromB (gr ms) fs k.toNat) := by
      cases hc : fs.contains (i : Int) with
      | false => rw [decide_eq_false (by have := hk20.2 hc; omega)]; rfl
      | true => rw [decide_eq_true (by have h' : ¬ (k20 < 0) := fun h => (by rw [hk20.1 h] at hc; cases hc); omega)]; rfl
    refine GC.loopK (α := Nat) (fun t => t ≤ (mayL ms[i].parts).length) (fun t => [(7, .bool (fs.contains (i : Int) || ((mayL ms[i].parts).take t).any fun k => fromB (gr ms) fs k.toNat)), (9, .int .i64 t)]) [(1, _), (2, _), (5, _), (6, _), (8, _)] (fun t => row intE B28 d28 (mayL ms[i].parts) :: row intE D e (whichL i (fromB (gr ms) fs)) :: blk g2 25 [.slice A ms.length c] :: L) (fun t => (mayL ms[i].parts).length - t) 0 (by rw [← hc0]; exact Wkp) Wsb (Nat.zero_le _) ?_
    rintro t ht
    refine GC.seq ?_
    refine GC.seq ?_
    refine GC.region ?_
    refine GL.v Wmv ?_
    refine GL.v Wmv ?_
    refine GL.v Wln ?_
    refine GL.v Wls ?_
    refine GL.nil ?_
    refine GE.seq ?_
    refine GC.ifs (fun h2 => ?_) (fun h2 => ?_)
    · -- TT
      have htl : t < (mayL ms[i].parts).length := by omega
      have hk := mayAt_lt hV (i := i) (by rw [hma]; exact List.getElem_mem htl)
      have hmx := any_take_succ (p := fun k => fromB (gr ms) fs k.toNat) htl
      have hwa := whichL_at (p := fromB (gr ms) fs) hk.1 hk.2.1
      refine GC.skip ?_
      refine GE.seq ?_
      refine GC.seq ?_
      refine GC.block ?_
      refine GC.region ?_
      refine GL.v Wmv ?_
      refine GL.v Wmv ?_
      refine GL.gs (fun h3 => ?_) (fun h3 => ?_)
      · -- TTt
        refine GL.unwant rfl rfl rfl rfl ?_
        refine GL.unwant rfl rfl rfl rfl ?_
        refine GL.unwant rfl rfl rfl rfl ?_
        refine GL.unwant rfl rfl rfl rfl ?_
        refine GL.unwant rfl rfl rfl rfl ?_
        refine GL.unwant rfl rfl rfl rfl ?_
        refine GL.unwant rfl rfl rfl rfl ?_
        refine GL.v Wpt ?_
        refine GL.v Wag ?_
        refine GL.nil ?_
        refine GE.block ?_
        refine GE.seq ?_
        refine GC.region ?_
        refine GL.v Wmv ?_
        refine GL.v Wad ?_
        refine GL.v Wag ?_
        refine GL.nil ?_
        -- round of loop 2, path TTt
        have he : (fs.contains (i : Int) || ((mayL ms[i].parts).take (t + 1)).any fun k => fromB (gr ms) fs k.toNat) = true := by rw [hmx, ← Bool.or_assoc, h3]; rfl
        refine GE.round (t + 1) (by omega) (by omega) (by rw [he]; exact Wkp) Wsb
      · -- TTf
        refine GL.want rfl rfl ?_
        refine GL.v Wmv ?_
        refine GL.want rfl rfl ?_
        refine GL.v Wmv ?_
        refine GL.want rfl rfl ?_
        refine GL.v Wmv ?_
        refine GL.want rfl rfl ?_
        refine GL.v Wix ?_
        refine GL.want rfl rfl ?_
        refine GL.v Wle ?_
        refine GL.want rfl rfl ?_
        refine GL.call rfl rfl (placeIn_spec _ _ _ _ _ Wrd Wom _) ?_
        rintro _ _ ⟨k42, rfl, hk42, e42⟩
        rw [e42]; clear e42
        refine GL.want rfl rfl ?_
        refine GL.v Wgq ?_
        refine GL.v Wpf ?_
        refine GL.v Wag ?_
        refine GL.nil ?_
        refine GE.block ?_
        refine GE.seq ?_
        refine GC.region ?_
        refine GL.v Wmv ?_
        refine GL.v Wad ?_
        refine GL.v Wag ?_
        refine GL.nil ?_
        -- round of loop 2, path TTf
        have he : (fs.contains (i : Int) || ((mayL ms[i].parts).take (t + 1)).any fun k => fromB (gr ms) fs k.toNat) = decide (0 ≤ k42) := by
          rw [hmx, ← Bool.or_assoc, h3, Bool.false_or, ← hwa]
          cases hc : (whichL i (fromB (gr ms) fs)).contains (mayL ms[i].parts)[t] with
          | false => rw [decide_eq_false (by have := hk42.2 hc; omega)]
          | true => rw [decide_eq_true (by have h' : ¬ (k42 < 0) := fun h => (by rw [hk42.1 h] at hc; cases hc); omega)]
        refine GE.round (t + 1) (by omega) (by omega) (by rw [he]; exact Wkp) Wsb
    · -- TF
      have hte : t = (mayL ms[i].parts).length := by omega
      subst hte
      rw [List.take_length, ← hma, ← from_eq hV h0]
      refine GC.exit ?_
      refine GE.seq_exit ?_
      refine GE.loop_exit ?_
      refine GE.block_exit ?_
      refine GE.seq ?_
      refine GC.seq ?_
      refine GC.region ?_
      refine GL.v Wmv ?_
      refine GL.nil ?_
      refine GE.seq ?_
      refine GC.ifs (fun h3 => ?_) (fun h3 => ?_)
      · -- TFT
        refine GC.region ?_
        refine GL.v Wmv ?_
        refine GL.v Wmv ?_
        refine GL.buildSlice rfl (by first | exact bsInt0 | exact bsInt1 _ | exact bsInt2 _ _ | exact bsInt3 _ _ _ | exact bsInt4 _ _ _ _ | exact bsInt5 _ _ _ _ _ | exact bsInt6 _ _ _ _ _ _ | exact bsInt7 _ _ _ _ _ _ _ | exact bsInt8 _ _ _ _ _ _ _ _ | exact bsInt9 _ _ _ _ _ _ _ _ _ | exact bsInt10 _ _ _ _ _ _ _ _ _ _ | exact bsPart0 | exact bsPart1 ⟨_, _, _, _, _⟩ | exact bsNode1 ⟨_, _, _, _⟩ | exact bsPtr3 _ _ _ | exact bsSl0 | exact bsSl1 ⟨_, _, _⟩) rfl (by decide) rfl ?_; intro g48
        first | (refine GL.append rfl rfl Wpk (by assumption) Wim (by first | rfl | (simp; done) | (simp; omega)) (by first | rfl | (simp; done) | (simp; omega)) (by first | omega | (simp; omega)) (by first | omega | (simp; omega)) rfl ?_; intro A49 c49) | (refine GL.append rfl rfl Wpk (Rd.of_pick Wpk) Imp.refl (by first | rfl | (simp; done) | (simp; omega)) (by first | rfl | (simp; done) | (simp; omega)) (by first | omega | (simp; omega)) (by first | omega | (simp; omega)) rfl ?_; intro A49 c49)
        refine GL.v Wag ?_
        refine GL.nil ?_
        refine GE.block ?_
        refine GE.seq ?_
        refine GC.region ?_
        refine GL.v Wmv ?_
        refine GL.v Wad ?_
        refine GL.v Wag ?_
        refine GL.nil ?_
        -- round of loop 1, path TFT
        rw [whichL_yes h3]
        refine GE.round (i + 1, _, _) (by dsimp only; omega) (by dsimp only; omega) Wkp Wsb
      · -- TFF
        refine GC.skip ?_
        refine GE.block ?_
        refine GE.seq ?_
        refine GC.region ?_
        refine GL.v Wmv ?_
        refine GL.v Wad ?_
        refine GL.v Wag ?_
        refine GL.nil ?_
        -- round of loop 1, path TFF
        rw [whichL_no (n := i) h3]
        refine GE.round (i + 1, D, e) (by dsimp only; omega) (by dsimp only; omega) Wkp Wsb
  · -- F
    have hie : i = ms.length := by omega
    subst hie
    refine GC.exit ?_
    refine GE.seq_exit ?_
    refine GE.loop_exit ?_
    refine GE.block_exit ?_
    refine GE.seq ?_
    refine GC.seq ?_
    refine GC.region ?_
    refine GL.v Wmv ?_
    refine GL.v Wag ?_
    refine GL.nil ?_
    refine GE.seq ?_
    refine GC.ret ?_
    -- returns, path F
    refine GE.ret_tmp (L' := row intE D e (whichL ms.length (fromB (gr ms) fs)) :: L) (.inl rfl) rfl rfl Wsb ?_
    exact ⟨_, _, rfl, rfl⟩
end SG
