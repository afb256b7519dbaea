/- Contracts: the laws' marks of a graph. -/
import Derived.Test.YtllepoepfkobfaaD7
import Derived.Test.YtllepoepfkobfaaD19
namespace SG
open Go Go.RowKit Go.Proofs
set_option linter.unusedVariables false
set_option linter.unusedSimpArgs false
set_option maxRecDepth 100000
theorem St.parts_out {w0 w : World} {L L1 : List Asn} {ms : List NdM} {i : Nat} (hi : i < ms.length) (q : Pick L (partsA ms) L1) (hs : St w0 w L) : St w0 w (ms[i].rowA :: partsA (ms.take i ++ ms.drop (i + 1)) :: L1) := by
  have h1 := (hs.pick q).flat
  have e : ms = ms.take i ++ ms[i] :: ms.drop (i + 1) := by rw [List.getElem_cons_drop, List.take_append_drop]
  rw [e, List.map_append, List.map_cons] at h1
  have p1 : Pick (((ms.take i).map NdM.rowA ++ ms[i].rowA :: (ms.drop (i + 1)).map NdM.rowA) ++ L1) ms[i].rowA (((ms.take i).map NdM.rowA ++ (ms.drop (i + 1)).map NdM.rowA) ++ L1) := Pick.app_left (Pick.app_right .head _)
  have h2 := h1.pick p1
  have p2 : Pick (ms[i].rowA :: (((ms.take i).map NdM.rowA ++ (ms.drop (i + 1)).map NdM.rowA) ++ L1)) ms[i].rowA ((((ms.take i).map NdM.rowA ++ (ms.drop (i + 1)).map NdM.rowA) ++ L1)) := .head
  have h3 : St w0 w (((ms.take i ++ ms.drop (i + 1)).map NdM.rowA) ++ (ms[i].rowA :: L1)) := by
    rw [List.map_append]
    exact h2.back (Pick.app_right .head _)
  have h4 : St w0 w (partsA (ms.take i ++ ms.drop (i + 1)) :: ms[i].rowA :: L1) := St.fold h3
  exact h4.pick (.tail .head)
theorem St.parts_in {w0 w : World} {L L1 L2 : List Asn} {m : NdM} {xs ys : List NdM} (p : Pick L m.rowA L1) (q : Pick L1 (partsA (xs ++ ys)) L2) (hs : St w0 w L) : St w0 w (partsA (xs ++ m :: ys) :: L2) := by
  have h1 := ((hs.pick p).pick (.tail q)).flat
  rw [List.map_append] at h1
  refine St.fold (L' := (xs ++ m :: ys).map NdM.rowA) ?_
  rw [List.map_append, List.map_cons]
  have p2 : Pick (((xs.map NdM.rowA) ++ ys.map NdM.rowA) ++ m.rowA :: L2) m.rowA (((xs.map NdM.rowA) ++ ys.map NdM.rowA) ++ L2) := Pick.app_right .head _
  have h2 := h1.pick p2
  exact h2.back (Pick.app_left (Pick.app_right .head _))
theorem addr_add0 (a : Addr) : a.add 0 = a := by simp [Addr.add]
theorem markNodeS_spec (w0 : World) (L : List Asn) (A : Option Addr) (c : Nat) (ms : List NdM) (hS : SizeG ms) (k : Int) (h0 : 0 ≤ k) (h1 : k ≤ 1000) :
    Tr Try.prog 72 #[.slice A ms.length c, .int .i64 k] w0 (row nodeE A c ms :: partsA ms :: L) (fun v L' => ∃ (k' : Int) (ns qs : List NdM), v = .int .i64 k' ∧ 0 ≤ k' ∧ k' ≤ 7000000000000 ∧ L' = row nodeE A c ns :: partsA qs :: L) := by
  have hSl := hS.1
  refine Tr.enter (args := [.slice A ms.length c, .int .i64 k]) Try.func72 Try.ntmps72 rfl rfl ?_
  refine GC.seq ?_
  refine GC.region ?_
  refine GL.v Wag ?_
  refine GL.nil ?_
  refine GE.seq ?_
  refine GC.seq ?_
  refine GC.seq ?_
  refine GC.region ?_
  refine GL.v Wag ?_
  refine GL.nil ?_
  refine GE.seq ?_
  refine GC.block ?_
  -- loop 1: carried slots [1, 5]
  refine GC.loopK (α := Nat × Int × List NdM × List NdM) (fun x => x.1 ≤ ms.length ∧ 0 ≤ x.2.1 ∧ x.2.1 ≤ 1000 + 6000000 * x.1 ∧ x.2.2.1.length = ms.length ∧ x.2.2.2.length = ms.length ∧ ∀ j, x.1 ≤ j → x.2.2.1[j]? = ms[j]? ∧ x.2.2.2[j]? = ms[j]?) (fun x => [(1, .int .i64 x.2.1), (5, .int .i64 x.1)]) [(0, _)] (fun x => row nodeE A c x.2.2.1 :: partsA x.2.2.2 :: L) (fun x => ms.length - x.1) (0, k, ms, ms) Wkp Wsb ⟨Nat.zero_le _, h0, by dsimp only; omega, rfl, rfl, fun _ _ => ⟨rfl, rfl⟩⟩ ?_
  rintro ⟨i, kk, ns, qs⟩ ⟨hi, hk0, hk1, hns, hqs, hrest⟩
  dsimp only at hi hk0 hk1 hns hqs hrest ⊢
  refine GC.seq ?_
  refine GC.seq ?_
  refine GC.region ?_
  refine GL.v Wmv ?_
  refine GL.v Wmv ?_
  refine GL.v Wln ?_
  refine GL.v Wls ?_
  refine GL.nil ?_
  refine GE.seq ?_
  refine GC.ifs (fun h1 => ?_) (fun h1 => ?_)
  · -- T
    have hil : i < ms.length := by omega
    have hin : i < ns.length := by omega
    have hiq : i < qs.length := by omega
    have hr := hrest i (Nat.le_refl i)
    have hni : ns[i] = ms[i] := by have := hr.1; rw [List.getElem?_eq_getElem hin, List.getElem?_eq_getElem hil] at this; exact Option.some.inj this
    have hqi : qs[i] = ms[i] := by have := hr.2; rw [List.getElem?_eq_getElem hiq, List.getElem?_eq_getElem hil] at this; exact Option.some.inj this
    have hSi := hS.2 i hil
    refine GC.skip ?_
    refine GE.seq ?_
    refine GC.seq ?_
    refine GC.block ?_
    refine GC.seq ?_
    refine GC.region ?_
    refine GL.v Wmv ?_
    refine GL.v Wmv ?_
    refine GL.v Wmv ?_
    refine GL.v Wix ?_
    refine GL.v Wfa ?_
    refine GL.store_el_cell (ns[i].setKind kk) (u := .int .i64 kk) rfl rfl Wpk rfl rfl Wom (by decide) rfl ?_
    obtain ⟨n2, hn2⟩ : ∃ n2, n2 = ns.set i (ns[i].setKind kk) := ⟨_, rfl⟩
    rw [← hn2]
    have h2l : n2.length = ms.length := by rw [hn2]; simp [hns]
    have h2i : n2[i]'(by omega) = ms[i].setKind kk := by simp [hn2, hni]
    refine GL.nil ?_
    refine GE.seq ?_
    refine GC.seq ?_
    refine GC.region ?_
    refine GL.v Wmv ?_
    refine GL.v Wad ?_
    refine GL.v Wag ?_
    refine GL.nil ?_
    refine GE.seq ?_
    refine GC.region ?_
    refine GL.v Wmv ?_
    refine GL.v Wmv ?_
    refine GL.v Wix ?_
    refine GL.v Wfa ?_
    refine GL.v Wfa ?_
    refine GL.v (Ev.load_el_cell (E := nodeE) (A := A) (k := i) (j := 1) (xs := n2) (congrArg (fun a => some (Value.pointer (some a))) (addr_add0 ((elA A i nodeE.size).add 1))) (Rd.of_pick Wpk) Imp.refl (List.getElem?_eq_getElem Wom) rfl) ?_
    refine GL.v Wmv ?_
    rw [h2i]
    refine GL.state (fun w hs => St.parts_out hiq Wpk hs) ?_
    rw [hqi]
    refine GL.callP rfl rfl Wpk (markPartS_spec _ _ _ _ ms[i].parts _ Wom Wom Wom) ?_
    rintro _ _ ⟨rfl, ys, hys, rfl⟩
    refine GL.v Wag ?_
    refine GL.nil ?_
    refine GE.block ?_
    refine GE.seq ?_
    refine GC.region ?_
    refine GL.v Wmv ?_
    refine GL.v Wad ?_
    refine GL.v Wag ?_
    refine GL.nil ?_
    -- round of loop 1, path T
    refine GE.state (fun w hs => St.parts_in (m := ⟨0, ms[i].a, ms[i].c, ys⟩) (xs := qs.take i) (ys := qs.drop (i + 1)) Wpk Wpk hs) ?_
    have eq : qs.take i ++ (⟨0, ms[i].a, ms[i].c, ys⟩ : NdM) :: qs.drop (i + 1) = qs.set i ⟨0, ms[i].a, ms[i].c, ys⟩ := by rw [List.set_eq_take_append_cons_drop]; simp [hiq]
    rw [eq]
    refine GE.round (i + 1, kk + 1 + 5 * ms[i].parts.length, n2, qs.set i ⟨0, ms[i].a, ms[i].c, ys⟩) ⟨by dsimp only; omega, by dsimp only; omega, by dsimp only; omega, h2l, by simp [hqs], fun j hj => ?_⟩ (by dsimp only; omega) Wkp Wsb
    dsimp only at hj ⊢
    have hr := hrest j (by omega)
    rw [hn2, List.getElem?_set_ne (by omega), List.getElem?_set_ne (by omega)]
    exact hr
  · -- F
    refine GC.exit ?_
    refine GE.seq_exit ?_
    refine GE.loop_exit ?_
    refine GE.block_exit ?_
    refine GE.seq ?_
    refine GC.seq ?_
    refine GC.region ?_
    refine GL.v Wmv ?_
    refine GL.v Wag ?_
    refine GL.nil ?_
    refine GE.seq ?_
    refine GC.ret ?_
    -- returns, path F
    refine GE.ret_tmp (L' := row nodeE A c ns :: partsA qs :: L) (.inl rfl) rfl rfl Wsb ?_
    exact ⟨kk, ns, qs, rfl, hk0, by omega, rfl⟩
theorem markGraph_spec (w0 : World) (L : List Asn) (A : Option Addr) (c : Nat) (ms : List NdM) (hS : SizeG ms) (k : Int) (h0 : 0 ≤ k) (h1 : k ≤ 1000) :
    Tr Try.prog 32 #[.agg #[.slice A ms.length c], .int .i64 k] w0 (row nodeE A c ms :: partsA ms :: L) (fun v L' => ∃ (k' : Int) (ns qs : List NdM), v = .int .i64 k' ∧ 0 ≤ k' ∧ k' ≤ 7000000000000 ∧ L' = row nodeE A c ns :: partsA qs :: L) := by
  have hSl := hS.1
  refine Tr.enter (args := [.agg #[.slice A ms.length c], .int .i64 k]) Try.func32 Try.ntmps32 rfl rfl ?_
  refine GC.seq ?_
  refine GC.region ?_
  refine GL.box_agg rfl rfl ?_; intro g2
  refine GL.v Wag ?_
  refine GL.nil ?_
  refine GE.seq ?_
  refine GC.seq ?_
  refine GC.region ?_
  refine GL.v Wfa ?_
  refine GL.v Wlb ?_
  refine GL.v Wmv ?_
  refine GL.front (A := partsA ms) Wpk ?_
  refine GL.front (A := row nodeE A c ms) Wpk ?_
  refine GL.call rfl rfl (markNodeS_spec _ _ _ _ _ hS _ h0 h1) ?_
  rintro _ _ ⟨k', ns, qs, rfl, hk', hk2, rfl⟩
  refine GL.v Wag ?_
  refine GL.nil ?_
  refine GE.seq ?_
  refine GC.seq ?_
  refine GC.region ?_
  refine GL.v Wmv ?_
  refine GL.v Wag ?_
  refine GL.nil ?_
  refine GE.seq ?_
  refine GC.ret ?_
  -- returns, path 
  refine GE.ret_tmp (L' := row nodeE A c ns :: partsA qs :: L) (.inl rfl) rfl rfl Wsb ?_
  exact ⟨k', ns, qs, rfl, hk', hk2, rfl⟩
end SG
