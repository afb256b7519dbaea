/- Contracts: goodFormula. -/
import Derived.Test.YtllepoepfkobfaaCB
namespace SG
open Go Go.RowKit Go.Proofs
set_option linter.unusedVariables false
set_option linter.unusedSimpArgs false
set_option maxRecDepth 100000
theorem GL.row_le {P : Program} {N : Nat} {F : Env} {L L1 : List Asn} {w0 : World} {Q : Exit → Act → World → Prop} {fs : List Kf} {ops : Array Oper} {l : List Oper} {α : Type} {E : El α} {A : Option Addr} {c : Nat} {xs : List α} (p : Pick L (row E A c xs) L1) (h : xs.length ≤ c ∧ c ≤ 9223372036854775807 → GL P Q w0 N false fs ops l F L) : GL P Q w0 N false fs ops l F L :=
  GL.fact (fun w hs => by have := (Rd.of_pick p).le w hs; exact ⟨this.1, Nat.le_trans this.2 (by decide)⟩) h
structure GFst where
  D : Option Addr
  e : Nat
  fp : List Part
  B : Option Addr
  d : Nat
  op : List Int
  p : Int
  n : Int
set_option maxHeartbeats 4000000 in
theorem goodFormula_spec (w0 : World) (L : List Asn) (g : Nat) (A : Option Addr) (c : Nat) (bs : List Int) (hC : Code0 w0 A c bs) (p : Int) (p0 : 0 ≤ p) (p1 : p ≤ 900000) (B : Option Addr) (d : Nat) (xs : List Int) (hX : Rd w0 L intE B d xs) (k : Nat) (hk : k = xs.length) (x1 : xs.length ≤ 1000) :
    Tr Try.prog 120 #[.pointer (some ⟨g, 0, none⟩), .slice B k d] w0 (rdr g A c bs p :: L) (fun v L' => ∃ (D : Option Addr) (e : Nat) (fp : List Part) (p' : Int), v = .agg #[.slice D fp.length e] ∧ 1 ≤ fp.length ∧ fp.length ≤ 12 ∧ p ≤ p' ∧ p' ≤ p + 100 ∧ L' = row partE D e fp :: rdr g A c bs p' :: L) := by
  subst hk
  refine Tr.enter (args := [.pointer (some ⟨g, 0, none⟩), .slice B xs.length d]) Try.func120 Try.ntmps120 rfl rfl ?_
  refine GC.seq ?_
  refine GC.region ?_
  refine GL.alloc rfl ?_; intro g4
  refine GL.nil ?_
  refine GE.seq ?_
  refine GC.seq ?_
  refine GC.region ?_
  refine GL.v (by exact EvP.r (Ev.build rfl (by first | exact bdPart ⟨_, _, _, _, _⟩ | exact bdReader _ _ _ | exact bdPart4 _ _ _ _ | exact bdForm _ _ _ | exact bdForm0 | exact bdGraph0 | exact bdGraph _ _ _ | exact bdNode1 _ | exact bdNode2 _ _ _ _ | exact bdHist0 | exact bdHist1 _ _ _ | exact bdHist2 _ _ _ _))) ?_
  refine GL.alloc rfl ?_; intro g5
  refine GL.store_varN rfl rfl rfl Wpk (by rfl) (by rfl) (by rfl) ?_
  refine GL.nil ?_
  refine GE.seq ?_
  refine GC.seq ?_
  refine GC.region ?_
  refine GL.buildSlice rfl (by first | exact bsInt0 | exact bsInt1 _ | exact bsInt2 _ _ | exact bsInt3 _ _ _ | exact bsInt4 _ _ _ _ | exact bsInt5 _ _ _ _ _ | exact bsInt6 _ _ _ _ _ _ | exact bsInt7 _ _ _ _ _ _ _ | exact bsInt8 _ _ _ _ _ _ _ _ | exact bsInt9 _ _ _ _ _ _ _ _ _ | exact bsInt10 _ _ _ _ _ _ _ _ _ _ | exact bsPart0 | exact bsPart1 ⟨_, _, _, _, _⟩ | exact bsNode1 ⟨_, _, _, _⟩ | exact bsPtr3 _ _ _ | exact bsSl0 | exact bsSl1 ⟨_, _, _⟩) rfl (by decide) rfl ?_; intro g12
  refine GL.v Wag ?_
  refine GL.nil ?_
  refine GE.seq ?_
  refine GC.seq ?_
  refine GC.seq ?_
  refine GC.region ?_
  refine GL.v Wmv ?_
  refine GL.buildSlice rfl (by first | exact bsInt0 | exact bsInt1 _ | exact bsInt2 _ _ | exact bsInt3 _ _ _ | exact bsInt4 _ _ _ _ | exact bsInt5 _ _ _ _ _ | exact bsInt6 _ _ _ _ _ _ | exact bsInt7 _ _ _ _ _ _ _ | exact bsInt8 _ _ _ _ _ _ _ _ | exact bsInt9 _ _ _ _ _ _ _ _ _ | exact bsInt10 _ _ _ _ _ _ _ _ _ _ | exact bsPart0 | exact bsPart1 ⟨_, _, _, _, _⟩ | exact bsNode1 ⟨_, _, _, _⟩ | exact bsPtr3 _ _ _ | exact bsSl0 | exact bsSl1 ⟨_, _, _⟩) rfl (by decide) rfl ?_; intro g14
  refine GL.front (A := rdr _ _ _ _ _) Wpk ?_
  refine GL.call rfl rfl (one_spec _ _ _ _ _ _ (by assumption) _ (by omega) (by omega) _ _ _ (by first | exact Rd.of_pick Wpk | exact Rd.imp (by assumption) Wim) _ (by rfl) (by first | omega | (simp; done) | (simp; omega)) (by first | omega | (simp; done) | (simp; omega))) ?_
  rintro _ _ ⟨x15, rfl, x15m, rfl⟩
  refine GL.v Wag ?_
  refine GL.nil ?_
  refine GE.seq ?_
  refine GC.block ?_
  -- loop 1: carried slots [6, 7]
  have hx15 : 1 ≤ x15 ∧ x15 ≤ 6 := by simp at x15m; omega
  refine GC.row0 partE none ?_
  refine GC.loopK (α := GFst) (fun s => 0 ≤ s.n ∧ s.n ≤ 6 ∧ (s.op.length : Int) ≤ 6 - s.n ∧ (s.fp.length : Int) ≤ 2 * (6 - s.n) ∧ p ≤ s.p ∧ s.p ≤ p + 1 + 6 * (6 - s.n)) (fun s => [(6, .slice s.B s.op.length s.d), (7, .int .i64 s.n)]) [(0, _), (1, _), (4, _), (5, _)] (fun s => row intE s.B s.d s.op :: row partE s.D s.e s.fp :: blk g5 69 [.slice s.D s.fp.length s.e] :: blk g4 69 [.slice none 0 0] :: rdr g A c bs s.p :: L) (fun s => s.n.toNat) ⟨none, 0, [], some ⟨g12, 0, none⟩, 0, [], p + 1, x15⟩ Wkp Wsb ⟨by dsimp only; omega, by dsimp only; omega, by dsimp only [List.length_nil]; omega, by dsimp only [List.length_nil]; omega, by dsimp only; omega, by dsimp only; omega⟩ ?_
  rintro ⟨D, e, fp, B', d', op, p', n⟩ ⟨hn0, hn6, hop, hfp, hp0, hp1⟩
  dsimp only at hn0 hn6 hop hfp hp0 hp1 ⊢
  refine GC.seq ?_
  refine GC.seq ?_
  refine GC.region ?_
  refine GL.v Wmv ?_
  refine GL.v Wgt ?_
  refine GL.nil ?_
  refine GE.seq ?_
  refine GC.ifs (fun h1 => ?_) (fun h1 => ?_)
  · -- T
    refine GC.skip ?_
    refine GE.seq ?_
    refine GC.seq ?_
    refine GC.block ?_
    refine GC.seq ?_
    refine GC.region ?_
    refine GL.v Wmv ?_
    refine GL.v Wmv ?_
    refine GL.front (A := rdr _ _ _ _ _) Wpk ?_
    refine GL.call rfl rfl (readPartOf_spec _ _ _ _ _ _ (by assumption) _ (by omega) (by omega) _ _ _ (Rd.imp (by assumption) Wim) (by assumption)) ?_
    rintro _ _ ⟨q22, rfl, hq22, rfl⟩
    refine GL.alloc rfl ?_; intro g8
    refine GL.store_varN rfl rfl rfl Wpk (by rfl) (by rfl) (by rfl) ?_
    refine GL.nil ?_
    refine GE.seq ?_
    -- midseq 7: carried slots []
    refine GC.seq_mid (β := Part × Int) (fun b => p' + 2 ≤ b.2 ∧ b.2 ≤ p' + 3) (fun b => []) [(0, _), (1, _), (4, _), (5, _), (6, _), (7, _), (8, _)] (fun b => rdr g A c bs b.2 :: blk g8 128 [.int .i64 b.1.kind, .int .i64 b.1.a, .int .i64 b.1.b, .int .i64 b.1.c, .int .i64 b.1.n] :: row intE B' d' op :: row partE D e fp :: blk g5 69 [.slice D fp.length e] :: blk g4 69 [.slice none 0 0] :: L) Wkp ?_ ?_
    ·
      refine GC.seq ?_
      refine GC.region ?_
      refine GL.v Wmv ?_
      refine GL.front (A := rdr _ _ _ _ _) Wpk ?_
      refine GL.call rfl rfl (pick_spec _ _ _ _ _ _ (by assumption) _ _ (by omega) (by omega) (by omega) (by omega)) ?_
      rintro _ _ ⟨x24, rfl, x24a, x24b, x24c, rfl⟩
      refine GL.v Weq ?_
      refine GL.nil ?_
      refine GE.seq ?_
      refine GC.ifs (fun h2 => ?_) (fun h2 => ?_)
      · -- TT
        refine GC.region ?_
        refine GL.v Wmv ?_
        refine GL.buildSlice rfl (by first | exact bsInt0 | exact bsInt1 _ | exact bsInt2 _ _ | exact bsInt3 _ _ _ | exact bsInt4 _ _ _ _ | exact bsInt5 _ _ _ _ _ | exact bsInt6 _ _ _ _ _ _ | exact bsInt7 _ _ _ _ _ _ _ | exact bsInt8 _ _ _ _ _ _ _ _ | exact bsInt9 _ _ _ _ _ _ _ _ _ | exact bsInt10 _ _ _ _ _ _ _ _ _ _ | exact bsPart0 | exact bsPart1 ⟨_, _, _, _, _⟩ | exact bsNode1 ⟨_, _, _, _⟩ | exact bsPtr3 _ _ _ | exact bsSl0 | exact bsSl1 ⟨_, _, _⟩) rfl (by decide) rfl ?_; intro g27
        refine GL.front (A := rdr _ _ _ _ _) Wpk ?_
        refine GL.call rfl rfl (one_spec _ _ _ _ _ _ (by assumption) _ (by omega) (by omega) _ _ _ (by first | exact Rd.of_pick Wpk | exact Rd.imp (by assumption) Wim) _ (by rfl) (by first | omega | (simp; done) | (simp; omega)) (by first | omega | (simp; done) | (simp; omega))) ?_
        rintro _ _ ⟨x28, rfl, x28m, rfl⟩
        refine GL.callF rfl rfl (numberPart_spec _ _ _) ?_
        refine GL.store_varN rfl rfl rfl Wpk (by rfl) (by rfl) (by rfl) ?_
        refine GL.nil ?_
        refine GE.mid ((⟨_, _, _, _, _⟩, _) : Part × Int) ?_ Wkp Wsb
        exact ⟨by dsimp only; omega, by dsimp only; omega⟩
      · -- TF
        refine GC.skip ?_
        refine GE.mid ((⟨_, _, _, _, _⟩, _) : Part × Int) ?_ Wkp Wsb
        exact ⟨by dsimp only; omega, by dsimp only; omega⟩
    ·
      rintro ⟨qm, pm⟩ ⟨hpm0, hpm1⟩
      dsimp only at hpm0 hpm1 ⊢
      refine GC.seq ?_
      refine GC.region ?_
      refine GL.v Wmv ?_
      refine GL.v Wfa ?_
      refine GL.v Wlb ?_
      refine GL.v Wln ?_
      refine GL.buildSlice rfl (by first | exact bsInt0 | exact bsInt1 _ | exact bsInt2 _ _ | exact bsInt3 _ _ _ | exact bsInt4 _ _ _ _ | exact bsInt5 _ _ _ _ _ | exact bsInt6 _ _ _ _ _ _ | exact bsInt7 _ _ _ _ _ _ _ | exact bsInt8 _ _ _ _ _ _ _ _ | exact bsInt9 _ _ _ _ _ _ _ _ _ | exact bsInt10 _ _ _ _ _ _ _ _ _ _ | exact bsPart0 | exact bsPart1 ⟨_, _, _, _, _⟩ | exact bsNode1 ⟨_, _, _, _⟩ | exact bsPtr3 _ _ _ | exact bsSl0 | exact bsSl1 ⟨_, _, _⟩) rfl (by decide) rfl ?_; intro g34
      first | (refine GL.append rfl rfl Wpk (by assumption) Wim (by first | rfl | (simp; done) | (simp; omega)) (by first | rfl | (simp; done) | (simp; omega)) (by first | omega | (simp; omega)) (by first | omega | (simp; omega)) rfl ?_; intro A35 c35) | (refine GL.append rfl rfl Wpk (Rd.of_pick Wpk) Imp.refl (by first | rfl | (simp; done) | (simp; omega)) (by first | rfl | (simp; done) | (simp; omega)) (by first | omega | (simp; omega)) (by first | omega | (simp; omega)) rfl ?_; intro A35 c35)
      refine GL.row_le (E := intE) (A := A35) (by (repeat (first | exact Pick.head | apply Pick.tail))) (fun hc35 => ?_)
      have hl35 : (op ++ [(fp.length : Int)]).length = op.length + 1 := by simp
      refine GL.v Wag ?_
      refine GL.nil ?_
      refine GE.seq ?_
      refine GC.seq ?_
      refine GC.region ?_
      refine GL.v Wfa ?_
      refine GL.v Wlb ?_
      refine GL.v Wlba ?_
      refine GL.buildSlice rfl (by first | exact bsInt0 | exact bsInt1 _ | exact bsInt2 _ _ | exact bsInt3 _ _ _ | exact bsInt4 _ _ _ _ | exact bsInt5 _ _ _ _ _ | exact bsInt6 _ _ _ _ _ _ | exact bsInt7 _ _ _ _ _ _ _ | exact bsInt8 _ _ _ _ _ _ _ _ | exact bsInt9 _ _ _ _ _ _ _ _ _ | exact bsInt10 _ _ _ _ _ _ _ _ _ _ | exact bsPart0 | exact bsPart1 ⟨_, _, _, _, _⟩ | exact bsNode1 ⟨_, _, _, _⟩ | exact bsPtr3 _ _ _ | exact bsSl0 | exact bsSl1 ⟨_, _, _⟩) rfl (by decide) rfl ?_; intro g39
      first | (refine GL.append rfl rfl Wpk (by assumption) Wim (by first | rfl | (simp; done) | (simp; omega)) (by first | rfl | (simp; done) | (simp; omega)) (by first | omega | (simp; omega)) (by first | omega | (simp; omega)) rfl ?_; intro A40 c40) | (refine GL.append rfl rfl Wpk (Rd.of_pick Wpk) Imp.refl (by first | rfl | (simp; done) | (simp; omega)) (by first | rfl | (simp; done) | (simp; omega)) (by first | omega | (simp; omega)) (by first | omega | (simp; omega)) rfl ?_; intro A40 c40)
      refine GL.v Wfa ?_
      refine GL.store_blk rfl rfl rfl Wpk (Nat.lt_of_lt_of_le (Nat.le_of_ble_eq_true (by rfl)) (Nat.le_refl _)) (by rfl) (by rfl) ?_
      refine GL.nil ?_
      refine GE.seq ?_
      refine GC.seq ?_
      refine GC.region ?_
      refine GL.v Wmv ?_
      refine GL.v Wln ?_
      refine GL.v Wag ?_
      refine GL.nil ?_
      refine GE.seq ?_
      refine GC.block ?_
      refine GC.seq ?_
      refine GC.region ?_
      refine GL.v Wmv ?_
      refine GL.v Wgq ?_
      refine GL.v Wmv ?_
      refine GL.gs (fun h2 => ?_) (fun h2 => ?_)
      · -- Tt
        refine GL.want rfl rfl ?_
        refine GL.v Wmv ?_
        refine GL.want rfl rfl ?_
        refine GL.front (A := rdr _ _ _ _ _) Wpk ?_
        refine GL.call rfl rfl (pick_spec _ _ _ _ _ _ (by assumption) _ _ (by omega) (by omega) (by omega) (by omega)) ?_
        rintro _ _ ⟨x49, rfl, x49a, x49b, x49c, rfl⟩
        refine GL.want rfl rfl ?_
        refine GL.v Weq ?_
        refine GL.v Wpt ?_
        refine GL.v Wag ?_
        refine GL.nil ?_
        refine GE.seq ?_
        refine GC.ifs (fun h3 => ?_) (fun h3 => ?_)
        · -- TtT
          refine GC.seq ?_
          refine GC.region_any #[false, false, false, false, false, false, false, false, false, false, false, false, false, false, false, false, false, false, true, true, false, true] mixed ?_
          refine GA.take 0 #[false, false, true, true, true, true, true, true, true, true, true, true, true, true, true, true, true, true, true, false, false, false] rfl (by exact Ev.fieldAddr rfl) rfl rfl (by kernel_rfl) rfl (by kernel_rfl) (by kernel_rfl) (fun _ _ _ h => h) ?_
          refine GA.read 1 #[true, false, true, true, true, true, true, true, true, true, true, true, true, true, true, true, true, true, true, false, false, false] rfl (by exact Wlb) rfl rfl (by kernel_rfl) rfl (by kernel_rfl) (by kernel_rfl) (fun _ _ _ h => h) ?_
          refine GA.take 2 #[true, true, false, true, true, false, false, true, true, true, true, true, true, true, true, true, true, false, false, false, false, false] rfl (by exact Ev.move rfl) rfl rfl (by kernel_rfl) rfl (by kernel_rfl) (by kernel_rfl) (fun _ _ _ h => h) ?_
          refine GA.take 3 #[true, true, true, false, false, false, false, true, true, true, true, true, true, true, true, true, true, false, false, false, false, false] rfl (by exact Ev.move rfl) rfl rfl (by kernel_rfl) rfl (by kernel_rfl) (by kernel_rfl) (fun _ _ _ h => h) ?_
          refine GA.take 4 #[true, true, true, true, false, false, false, true, true, true, true, true, true, true, true, true, true, false, false, false, false, false] rfl (by exact Ev.sub rfl rfl (by omega)) rfl rfl (by kernel_rfl) rfl (by kernel_rfl) (by kernel_rfl) (fun _ _ _ h => h) ?_
          refine GA.read 5 #[true, true, true, true, true, false, false, true, true, true, true, true, true, true, true, true, true, false, false, false, false, false] rfl (by exact Wix) rfl rfl (by kernel_rfl) rfl (by kernel_rfl) (by kernel_rfl) (fun _ _ _ h => h) ?_
          refine GA.read 6 #[true, true, true, true, true, true, false, true, true, true, true, true, true, true, true, true, true, false, false, false, false, false] rfl (by exact Wle) rfl rfl (by kernel_rfl) rfl (by kernel_rfl) (by kernel_rfl) (fun _ _ _ h => h) ?_
          refine GA.take 7 #[true, true, true, true, true, true, true, false, true, true, false, false, true, true, true, true, true, false, false, false, false, false] rfl (by exact Ev.move rfl) rfl rfl (by kernel_rfl) rfl (by kernel_rfl) (by kernel_rfl) (fun _ _ _ h => h) ?_
          refine GA.take 8 #[true, true, true, true, true, true, true, true, false, false, false, false, true, true, true, true, true, false, false, false, false, false] rfl (by exact Ev.move rfl) rfl rfl (by kernel_rfl) rfl (by kernel_rfl) (by kernel_rfl) (fun _ _ _ h => h) ?_
          refine GA.take 9 #[true, true, true, true, true, true, true, true, true, false, false, false, true, true, true, true, true, false, false, false, false, false] rfl (by exact Ev.sub rfl rfl (by omega)) rfl rfl (by kernel_rfl) rfl (by kernel_rfl) (by kernel_rfl) (fun _ _ _ h => h) ?_
          refine GA.read 10 #[true, true, true, true, true, true, true, true, true, true, false, false, true, true, true, true, true, false, false, false, false, false] rfl (by exact Wix) rfl rfl (by kernel_rfl) rfl (by kernel_rfl) (by kernel_rfl) (fun _ _ _ h => h) ?_
          refine GA.read 11 #[true, true, true, true, true, true, true, true, true, true, true, false, true, true, true, true, true, false, false, false, false, false] rfl (by exact Wle) rfl rfl (by kernel_rfl) rfl (by kernel_rfl) (by kernel_rfl) (fun _ _ _ h => h) ?_
          refine GA.take 12 #[true, true, true, true, true, true, true, true, true, true, true, true, false, true, true, false, false, false, false, false, false, false] rfl (by exact Ev.move rfl) rfl rfl (by kernel_rfl) rfl (by kernel_rfl) (by kernel_rfl) (fun _ _ _ h => h) ?_
          refine GA.take 13 #[true, true, true, true, true, true, true, true, true, true, true, true, true, false, false, false, false, false, false, false, false, false] rfl (by exact Ev.move rfl) rfl rfl (by kernel_rfl) rfl (by kernel_rfl) (by kernel_rfl) (fun _ _ _ h => h) ?_
          refine GA.take 14 #[true, true, true, true, true, true, true, true, true, true, true, true, true, true, false, false, false, false, false, false, false, false] rfl (by exact Ev.sub rfl rfl (by omega)) rfl rfl (by kernel_rfl) rfl (by kernel_rfl) (by kernel_rfl) (fun _ _ _ h => h) ?_
          refine GA.read 15 #[true, true, true, true, true, true, true, true, true, true, true, true, true, true, true, false, false, false, false, false, false, false] rfl (by exact Wix) rfl rfl (by kernel_rfl) rfl (by kernel_rfl) (by kernel_rfl) (fun _ _ _ h => h) ?_
          refine GA.read 16 #[true, true, true, true, true, true, true, true, true, true, true, true, true, true, true, true, false, false, false, false, false, false] rfl (by exact Wle) rfl rfl (by kernel_rfl) rfl (by kernel_rfl) (by kernel_rfl) (fun _ _ _ h => h) ?_
          refine GA.take 17 #[true, true, true, true, true, true, true, true, true, true, true, true, true, true, true, true, true, false, false, false, false, false] rfl (by exact Ev.build rfl (by first | exact bdPart ⟨_, _, _, _, _⟩ | exact bdReader _ _ _ | exact bdPart4 _ _ _ _ | exact bdForm _ _ _ | exact bdForm0 | exact bdGraph0 | exact bdGraph _ _ _ | exact bdNode1 _ | exact bdNode2 _ _ _ _ | exact bdHist0 | exact bdHist1 _ _ _ | exact bdHist2 _ _ _ _)) rfl rfl (by kernel_rfl) rfl (by kernel_rfl) (by kernel_rfl) (fun _ _ _ h => h) ?_
          refine GA.branch (rs := [18]) (JOk.live (by exact Wle) (JOk.live (by exact Wix) (JOk.live (by exact Wle) (JOk.live (by exact Wix) (JOk.live (by exact Wle) (JOk.live (by exact Wix) (JOk.live (by exact Wlb) JOk.nil))))))) (by kernel_rfl) (by simp) ?_
          refine GAs.cons rfl ?_ ?_
          · -- TtT op 18
            refine GL.buildSlice rfl (by first | exact bsInt0 | exact bsInt1 _ | exact bsInt2 _ _ | exact bsInt3 _ _ _ | exact bsInt4 _ _ _ _ | exact bsInt5 _ _ _ _ _ | exact bsInt6 _ _ _ _ _ _ | exact bsInt7 _ _ _ _ _ _ _ | exact bsInt8 _ _ _ _ _ _ _ _ | exact bsInt9 _ _ _ _ _ _ _ _ _ | exact bsInt10 _ _ _ _ _ _ _ _ _ _ | exact bsPart0 | exact bsPart1 ⟨_, _, _, _, _⟩ | exact bsNode1 ⟨_, _, _, _⟩ | exact bsPtr3 _ _ _ | exact bsSl0 | exact bsSl1 ⟨_, _, _⟩) rfl (by decide) rfl ?_; intro g70
            refine GL.nil ?_
            refine GE.any ?_
            refine GA.branch (rs := [19]) (JOk.dead (by kernel_rfl) (JOk.dead (by kernel_rfl) (JOk.dead (by kernel_rfl) (JOk.dead (by kernel_rfl) (JOk.dead (by kernel_rfl) (JOk.dead (by kernel_rfl) (JOk.live (by exact Wlb) JOk.nil))))))) (by kernel_rfl) (by simp) ?_
            refine GAs.cons rfl ?_ ?_
            · -- TtT op 19
              first | (refine GL.append rfl rfl Wpk (by assumption) Wim (by first | rfl | (simp; done) | (simp; omega)) (by first | rfl | (simp; done) | (simp; omega)) (by first | omega | (simp; omega)) (by first | omega | (simp; omega)) rfl ?_; intro A71 c71) | (refine GL.append rfl rfl Wpk (Rd.of_pick Wpk) Imp.refl (by first | rfl | (simp; done) | (simp; omega)) (by first | rfl | (simp; done) | (simp; omega)) (by first | omega | (simp; omega)) (by first | omega | (simp; omega)) rfl ?_; intro A71 c71)
              refine GL.nil ?_
              refine GE.any ?_
              refine GA.take 20 #[true, true, true, true, true, true, true, true, true, true, true, true, true, true, true, true, true, true, true, true, false, false] rfl (by exact Ev.fieldAddr rfl) rfl rfl (by kernel_rfl) rfl (by kernel_rfl) (by kernel_rfl) (fun _ _ _ h => h) ?_
              refine GA.branch (rs := [21]) (JOk.dead (by kernel_rfl) (JOk.dead (by kernel_rfl) (JOk.dead (by kernel_rfl) (JOk.dead (by kernel_rfl) (JOk.dead (by kernel_rfl) (JOk.dead (by kernel_rfl) (JOk.dead (by kernel_rfl) JOk.nil))))))) (by kernel_rfl) (by simp) ?_
              refine GAs.cons rfl ?_ ?_
              · -- TtT op 21
                refine GL.store_blk rfl rfl rfl Wpk (Nat.lt_of_lt_of_le (Nat.le_of_ble_eq_true (by rfl)) (Nat.le_refl _)) (by rfl) (by rfl) ?_
                refine GL.nil ?_
                refine GE.any ?_
                refine GA.done (JOk.dead (by kernel_rfl) (JOk.dead (by kernel_rfl) (JOk.dead (by kernel_rfl) (JOk.dead (by kernel_rfl) (JOk.dead (by kernel_rfl) (JOk.dead (by kernel_rfl) (JOk.dead (by kernel_rfl) JOk.nil))))))) (by kernel_rfl) ?_
                refine GE.seq ?_
                refine GC.region_any #[false, false, false, false, false, false, false, false, true, true, false] mixed ?_
                refine GA.take 0 #[false, true, true, false, true, true, true, true, true, false, false] rfl (by exact Ev.move rfl) rfl rfl (by kernel_rfl) rfl (by kernel_rfl) (by kernel_rfl) (fun _ _ _ h => h) ?_
                refine GA.take 1 #[true, false, false, false, true, true, true, true, true, false, false] rfl (by exact Ev.move rfl) rfl rfl (by kernel_rfl) rfl (by kernel_rfl) (by kernel_rfl) (fun _ _ _ h => h) ?_
                refine GA.take 2 #[true, true, false, false, true, true, true, true, true, false, false] rfl (by exact Ev.sub rfl rfl (by omega)) rfl rfl (by kernel_rfl) rfl (by kernel_rfl) (by kernel_rfl) (fun _ _ _ h => h) ?_
                refine GA.take 3 #[true, true, true, false, true, true, true, true, true, false, false] rfl (by exact Ev.cut_to rfl rfl Wik (by omega)) rfl rfl (by kernel_rfl) rfl (by kernel_rfl) (by kernel_rfl) (fun _ _ _ h => h) ?_
                refine GA.take 4 #[true, true, true, true, false, false, false, false, false, false, false] rfl (by exact Ev.fieldAddr rfl) rfl rfl (by kernel_rfl) rfl (by kernel_rfl) (by kernel_rfl) (fun _ _ _ h => h) ?_
                refine GA.read 5 #[true, true, true, true, true, false, false, false, false, false, false] rfl (by exact Wlb) rfl rfl (by kernel_rfl) rfl (by kernel_rfl) (by kernel_rfl) (fun _ _ _ h => h) ?_
                refine GA.take 6 #[true, true, true, true, true, true, false, false, false, false, false] rfl (by exact Ev.len rfl) rfl rfl (by kernel_rfl) rfl (by kernel_rfl) (by kernel_rfl) (fun _ _ _ h => h) ?_
                refine GA.take 7 #[true, true, true, true, true, true, true, false, false, false, false] rfl (by exact Ev.sub rfl rfl (by simp only [List.length_append, List.length_cons, List.length_nil]; omega)) rfl rfl (by kernel_rfl) rfl (by kernel_rfl) (by kernel_rfl) (fun _ _ _ h => h) ?_
                refine GA.branch (rs := [8]) (JOk.live (by exact Wlb) JOk.nil) (by kernel_rfl) (by simp) ?_
                refine GAs.cons rfl ?_ ?_
                · -- TtT op 8
                  refine GL.buildSlice rfl (by first | exact bsInt0 | exact bsInt1 _ | exact bsInt2 _ _ | exact bsInt3 _ _ _ | exact bsInt4 _ _ _ _ | exact bsInt5 _ _ _ _ _ | exact bsInt6 _ _ _ _ _ _ | exact bsInt7 _ _ _ _ _ _ _ | exact bsInt8 _ _ _ _ _ _ _ _ | exact bsInt9 _ _ _ _ _ _ _ _ _ | exact bsInt10 _ _ _ _ _ _ _ _ _ _ | exact bsPart0 | exact bsPart1 ⟨_, _, _, _, _⟩ | exact bsNode1 ⟨_, _, _, _⟩ | exact bsPtr3 _ _ _ | exact bsSl0 | exact bsSl1 ⟨_, _, _⟩) rfl (by decide) rfl ?_; intro g81
                  refine GL.nil ?_
                  refine GE.any ?_
                  refine GA.branch (rs := [9]) (JOk.dead (by kernel_rfl) JOk.nil) (by kernel_rfl) (by simp) ?_
                  refine GAs.cons rfl ?_ ?_
                  · -- TtT op 9
                    refine GL.row_take (E := intE) (A := A35) (((op ++ [(fp.length : Int)]).length : Int) - 3).toNat (by (repeat (first | exact Pick.head | apply Pick.tail))) ?_
                    first | (refine GL.append rfl rfl Wpk (by assumption) Wim (by first | rfl | (simp; done) | (simp; omega)) (by first | rfl | (simp; done) | (simp; omega)) (by first | omega | (simp; omega)) (by first | omega | (simp; omega)) rfl ?_; intro A82 c82) | (refine GL.append rfl rfl Wpk (Rd.of_pick Wpk) Imp.refl (by first | rfl | (simp; done) | (simp; omega)) (by first | rfl | (simp; done) | (simp; omega)) (by first | omega | (simp; omega)) (by first | omega | (simp; omega)) rfl ?_; intro A82 c82)
                    refine GL.nil ?_
                    refine GE.any ?_
                    refine GA.take 10 #[true, true, true, true, true, true, true, true, true, true, false] rfl (by exact Ev.assign rfl) rfl rfl (by kernel_rfl) rfl (by kernel_rfl) (by kernel_rfl) (fun _ _ _ h => h) ?_
                    refine GA.done (JOk.dead (by kernel_rfl) JOk.nil) (by kernel_rfl) ?_
                    refine GE.block ?_
                    refine GE.block ?_
                    refine GE.seq ?_
                    refine GC.region ?_
                    refine GL.v Wmv ?_
                    refine GL.v Wsu ?_
                    refine GL.v Wag ?_
                    refine GL.nil ?_
                    -- round of loop 1, path TtT
                    refine GE.round ⟨_, _, _, _, _, _, _, _⟩ ?_ ?_ Wkp Wsb
                    · refine ⟨?_, ?_, ?_, ?_, ?_, ?_⟩ <;> first | omega | (simp only [List.length_append, List.length_cons, List.length_nil, List.length_take]; omega)
                    · dsimp only; omega
                  exact GAs.nil
                exact GAs.nil
              exact GAs.nil
            exact GAs.nil
          exact GAs.nil
        · -- TtF
          refine GC.seq ?_
          refine GC.region ?_
          refine GL.v Wmv ?_
          refine GL.v Wgq ?_
          refine GL.v Wmv ?_
          refine GL.gs (fun h4 => ?_) (fun h4 => ?_)
          · -- TtFt
            refine GL.want rfl rfl ?_
            refine GL.v Wmv ?_
            refine GL.want rfl rfl ?_
            refine GL.front (A := rdr _ _ _ _ _) Wpk ?_
            refine GL.call rfl rfl (pick_spec _ _ _ _ _ _ (by assumption) _ _ (by omega) (by omega) (by omega) (by omega)) ?_
            rintro _ _ ⟨x88, rfl, x88a, x88b, x88c, rfl⟩
            refine GL.want rfl rfl ?_
            refine GL.v Weq ?_
            refine GL.v Wpt ?_
            refine GL.v Wag ?_
            refine GL.nil ?_
            refine GE.seq ?_
            refine GC.ifs (fun h5 => ?_) (fun h5 => ?_)
            · -- TtFtT
              refine GC.seq ?_
              refine GC.region_any #[false, false, false, true, false, false, false, false, false, false, false, false, false, false, false, false, true, true, false, true] mixed ?_
              refine GA.take 0 #[false, false, true, true, true, true, true, true, true, true, true, true, true, true, true, true, true, false, false, false] rfl (by exact Ev.fieldAddr rfl) rfl rfl (by kernel_rfl) rfl (by kernel_rfl) (by kernel_rfl) (fun _ _ _ h => h) ?_
              refine GA.read 1 #[true, false, true, true, true, true, true, true, true, true, true, true, true, true, true, true, true, false, false, false] rfl (by exact Wlb) rfl rfl (by kernel_rfl) rfl (by kernel_rfl) (by kernel_rfl) (fun _ _ _ h => h) ?_
              refine GA.take 2 #[true, true, false, false, false, true, true, true, true, true, true, true, true, true, true, false, false, false, false, false] rfl (by exact Ev.move rfl) rfl rfl (by kernel_rfl) rfl (by kernel_rfl) (by kernel_rfl) (fun _ _ _ h => h) ?_
              refine GA.take 5 #[true, true, true, true, true, false, true, true, false, false, true, true, true, true, true, false, false, false, false, false] rfl (by exact Ev.move rfl) rfl rfl (by kernel_rfl) rfl (by kernel_rfl) (by kernel_rfl) (fun _ _ _ h => h) ?_
              refine GA.take 6 #[true, true, true, true, true, true, false, false, false, false, true, true, true, true, true, false, false, false, false, false] rfl (by exact Ev.move rfl) rfl rfl (by kernel_rfl) rfl (by kernel_rfl) (by kernel_rfl) (fun _ _ _ h => h) ?_
              refine GA.take 7 #[true, true, true, true, true, true, true, false, false, false, true, true, true, true, true, false, false, false, false, false] rfl (by exact Ev.sub rfl rfl (by omega)) rfl rfl (by kernel_rfl) rfl (by kernel_rfl) (by kernel_rfl) (fun _ _ _ h => h) ?_
              refine GA.read 8 #[true, true, true, true, true, true, true, true, false, false, true, true, true, true, true, false, false, false, false, false] rfl (by exact Wix) rfl rfl (by kernel_rfl) rfl (by kernel_rfl) (by kernel_rfl) (fun _ _ _ h => h) ?_
              refine GA.read 9 #[true, true, true, true, true, true, true, true, true, false, true, true, true, true, true, false, false, false, false, false] rfl (by exact Wle) rfl rfl (by kernel_rfl) rfl (by kernel_rfl) (by kernel_rfl) (fun _ _ _ h => h) ?_
              refine GA.take 10 #[true, true, true, true, true, true, true, true, true, true, false, true, true, false, false, false, false, false, false, false] rfl (by exact Ev.move rfl) rfl rfl (by kernel_rfl) rfl (by kernel_rfl) (by kernel_rfl) (fun _ _ _ h => h) ?_
              refine GA.take 11 #[true, true, true, true, true, true, true, true, true, true, true, false, false, false, false, false, false, false, false, false] rfl (by exact Ev.move rfl) rfl rfl (by kernel_rfl) rfl (by kernel_rfl) (by kernel_rfl) (fun _ _ _ h => h) ?_
              refine GA.take 12 #[true, true, true, true, true, true, true, true, true, true, true, true, false, false, false, false, false, false, false, false] rfl (by exact Ev.sub rfl rfl (by omega)) rfl rfl (by kernel_rfl) rfl (by kernel_rfl) (by kernel_rfl) (fun _ _ _ h => h) ?_
              refine GA.read 13 #[true, true, true, true, true, true, true, true, true, true, true, true, true, false, false, false, false, false, false, false] rfl (by exact Wix) rfl rfl (by kernel_rfl) rfl (by kernel_rfl) (by kernel_rfl) (fun _ _ _ h => h) ?_
              refine GA.read 14 #[true, true, true, true, true, true, true, true, true, true, true, true, true, true, false, false, false, false, false, false] rfl (by exact Wle) rfl rfl (by kernel_rfl) rfl (by kernel_rfl) (by kernel_rfl) (fun _ _ _ h => h) ?_
              refine GA.branch (rs := [3]) (JOk.live (by exact Wle) (JOk.live (by exact Wix) (JOk.live (by exact Wle) (JOk.live (by exact Wix) (JOk.live (by exact Wlb) JOk.nil))))) (by kernel_rfl) (by simp) ?_
              refine GAs.cons rfl ?_ ?_
              · -- TtFtT op 3
                refine GL.front (A := rdr _ _ _ _ _) Wpk ?_
                refine GL.call rfl rfl (pick_spec _ _ _ _ _ _ (by assumption) _ _ (by omega) (by omega) (by omega) (by omega)) ?_
                rintro _ _ ⟨x94, rfl, x94a, x94b, x94c, rfl⟩
                refine GL.nil ?_
                refine GE.any ?_
                refine GA.take 4 #[true, true, true, true, false, true, true, true, true, true, true, true, true, true, true, false, false, false, false, false] rfl (by exact Ev.add rfl rfl (by omega)) rfl rfl (by kernel_rfl) rfl (by kernel_rfl) (by kernel_rfl) (fun _ _ _ h => h) ?_
                refine GA.take 15 #[true, true, true, true, true, true, true, true, true, true, true, true, true, true, true, false, false, false, false, false] rfl (by exact Ev.build rfl (by first | exact bdPart ⟨_, _, _, _, _⟩ | exact bdReader _ _ _ | exact bdPart4 _ _ _ _ | exact bdForm _ _ _ | exact bdForm0 | exact bdGraph0 | exact bdGraph _ _ _ | exact bdNode1 _ | exact bdNode2 _ _ _ _ | exact bdHist0 | exact bdHist1 _ _ _ | exact bdHist2 _ _ _ _)) rfl rfl (by kernel_rfl) rfl (by kernel_rfl) (by kernel_rfl) (fun _ _ _ h => h) ?_
                refine GA.branch (rs := [16]) (JOk.live (by exact Wle) (JOk.live (by exact Wix) (JOk.live (by exact Wle) (JOk.live (by exact Wix) (JOk.live (by exact Wlb) JOk.nil))))) (by kernel_rfl) (by simp) ?_
                refine GAs.cons rfl ?_ ?_
                · -- TtFtT op 16
                  refine GL.buildSlice rfl (by first | exact bsInt0 | exact bsInt1 _ | exact bsInt2 _ _ | exact bsInt3 _ _ _ | exact bsInt4 _ _ _ _ | exact bsInt5 _ _ _ _ _ | exact bsInt6 _ _ _ _ _ _ | exact bsInt7 _ _ _ _ _ _ _ | exact bsInt8 _ _ _ _ _ _ _ _ | exact bsInt9 _ _ _ _ _ _ _ _ _ | exact bsInt10 _ _ _ _ _ _ _ _ _ _ | exact bsPart0 | exact bsPart1 ⟨_, _, _, _, _⟩ | exact bsNode1 ⟨_, _, _, _⟩ | exact bsPtr3 _ _ _ | exact bsSl0 | exact bsSl1 ⟨_, _, _⟩) rfl (by decide) rfl ?_; intro g107
                  refine GL.nil ?_
                  refine GE.any ?_
                  refine GA.branch (rs := [17]) (JOk.dead (by kernel_rfl) (JOk.dead (by kernel_rfl) (JOk.dead (by kernel_rfl) (JOk.dead (by kernel_rfl) (JOk.live (by exact Wlb) JOk.nil))))) (by kernel_rfl) (by simp) ?_
                  refine GAs.cons rfl ?_ ?_
                  · -- TtFtT op 17
                    first | (refine GL.append rfl rfl Wpk (by assumption) Wim (by first | rfl | (simp; done) | (simp; omega)) (by first | rfl | (simp; done) | (simp; omega)) (by first | omega | (simp; omega)) (by first | omega | (simp; omega)) rfl ?_; intro A108 c108) | (refine GL.append rfl rfl Wpk (Rd.of_pick Wpk) Imp.refl (by first | rfl | (simp; done) | (simp; omega)) (by first | rfl | (simp; done) | (simp; omega)) (by first | omega | (simp; omega)) (by first | omega | (simp; omega)) rfl ?_; intro A108 c108)
                    refine GL.nil ?_
                    refine GE.any ?_
                    refine GA.take 18 #[true, true, true, true, true, true, true, true, true, true, true, true, true, true, true, true, true, true, false, false] rfl (by exact Ev.fieldAddr rfl) rfl rfl (by kernel_rfl) rfl (by kernel_rfl) (by kernel_rfl) (fun _ _ _ h => h) ?_
                    refine GA.branch (rs := [19]) (JOk.dead (by kernel_rfl) (JOk.dead (by kernel_rfl) (JOk.dead (by kernel_rfl) (JOk.dead (by kernel_rfl) (JOk.dead (by kernel_rfl) JOk.nil))))) (by kernel_rfl) (by simp) ?_
                    refine GAs.cons rfl ?_ ?_
                    · -- TtFtT op 19
                      refine GL.store_blk rfl rfl rfl Wpk (Nat.lt_of_lt_of_le (Nat.le_of_ble_eq_true (by rfl)) (Nat.le_refl _)) (by rfl) (by rfl) ?_
                      refine GL.nil ?_
                      refine GE.any ?_
                      refine GA.done (JOk.dead (by kernel_rfl) (JOk.dead (by kernel_rfl) (JOk.dead (by kernel_rfl) (JOk.dead (by kernel_rfl) (JOk.dead (by kernel_rfl) JOk.nil))))) (by kernel_rfl) ?_
                      refine GE.seq ?_
                      refine GC.region_any #[false, false, false, false, false, false, false, false, true, true, false] mixed ?_
                      refine GA.take 0 #[false, true, true, false, true, true, true, true, true, false, false] rfl (by exact Ev.move rfl) rfl rfl (by kernel_rfl) rfl (by kernel_rfl) (by kernel_rfl) (fun _ _ _ h => h) ?_
                      refine GA.take 1 #[true, false, false, false, true, true, true, true, true, false, false] rfl (by exact Ev.move rfl) rfl rfl (by kernel_rfl) rfl (by kernel_rfl) (by kernel_rfl) (fun _ _ _ h => h) ?_
                      refine GA.take 2 #[true, true, false, false, true, true, true, true, true, false, false] rfl (by exact Ev.sub rfl rfl (by omega)) rfl rfl (by kernel_rfl) rfl (by kernel_rfl) (by kernel_rfl) (fun _ _ _ h => h) ?_
                      refine GA.take 3 #[true, true, true, false, true, true, true, true, true, false, false] rfl (by exact Ev.cut_to rfl rfl Wik (by omega)) rfl rfl (by kernel_rfl) rfl (by kernel_rfl) (by kernel_rfl) (fun _ _ _ h => h) ?_
                      refine GA.take 4 #[true, true, true, true, false, false, false, false, false, false, false] rfl (by exact Ev.fieldAddr rfl) rfl rfl (by kernel_rfl) rfl (by kernel_rfl) (by kernel_rfl) (fun _ _ _ h => h) ?_
                      refine GA.read 5 #[true, true, true, true, true, false, false, false, false, false, false] rfl (by exact Wlb) rfl rfl (by kernel_rfl) rfl (by kernel_rfl) (by kernel_rfl) (fun _ _ _ h => h) ?_
                      refine GA.take 6 #[true, true, true, true, true, true, false, false, false, false, false] rfl (by exact Ev.len rfl) rfl rfl (by kernel_rfl) rfl (by kernel_rfl) (by kernel_rfl) (fun _ _ _ h => h) ?_
                      refine GA.take 7 #[true, true, true, true, true, true, true, false, false, false, false] rfl (by exact Ev.sub rfl rfl (by simp only [List.length_append, List.length_cons, List.length_nil]; omega)) rfl rfl (by kernel_rfl) rfl (by kernel_rfl) (by kernel_rfl) (fun _ _ _ h => h) ?_
                      refine GA.branch (rs := [8]) (JOk.live (by exact Wlb) JOk.nil) (by kernel_rfl) (by simp) ?_
                      refine GAs.cons rfl ?_ ?_
                      · -- TtFtT op 8
                        refine GL.buildSlice rfl (by first | exact bsInt0 | exact bsInt1 _ | exact bsInt2 _ _ | exact bsInt3 _ _ _ | exact bsInt4 _ _ _ _ | exact bsInt5 _ _ _ _ _ | exact bsInt6 _ _ _ _ _ _ | exact bsInt7 _ _ _ _ _ _ _ | exact bsInt8 _ _ _ _ _ _ _ _ | exact bsInt9 _ _ _ _ _ _ _ _ _ | exact bsInt10 _ _ _ _ _ _ _ _ _ _ | exact bsPart0 | exact bsPart1 ⟨_, _, _, _, _⟩ | exact bsNode1 ⟨_, _, _, _⟩ | exact bsPtr3 _ _ _ | exact bsSl0 | exact bsSl1 ⟨_, _, _⟩) rfl (by decide) rfl ?_; intro g118
                        refine GL.nil ?_
                        refine GE.any ?_
                        refine GA.branch (rs := [9]) (JOk.dead (by kernel_rfl) JOk.nil) (by kernel_rfl) (by simp) ?_
                        refine GAs.cons rfl ?_ ?_
                        · -- TtFtT op 9
                          refine GL.row_take (E := intE) (A := A35) (((op ++ [(fp.length : Int)]).length : Int) - 2).toNat (by (repeat (first | exact Pick.head | apply Pick.tail))) ?_
                          first | (refine GL.append rfl rfl Wpk (by assumption) Wim (by first | rfl | (simp; done) | (simp; omega)) (by first | rfl | (simp; done) | (simp; omega)) (by first | omega | (simp; omega)) (by first | omega | (simp; omega)) rfl ?_; intro A119 c119) | (refine GL.append rfl rfl Wpk (Rd.of_pick Wpk) Imp.refl (by first | rfl | (simp; done) | (simp; omega)) (by first | rfl | (simp; done) | (simp; omega)) (by first | omega | (simp; omega)) (by first | omega | (simp; omega)) rfl ?_; intro A119 c119)
                          refine GL.nil ?_
                          refine GE.any ?_
                          refine GA.take 10 #[true, true, true, true, true, true, true, true, true, true, false] rfl (by exact Ev.assign rfl) rfl rfl (by kernel_rfl) rfl (by kernel_rfl) (by kernel_rfl) (fun _ _ _ h => h) ?_
                          refine GA.done (JOk.dead (by kernel_rfl) JOk.nil) (by kernel_rfl) ?_
                          refine GE.block ?_
                          refine GE.block ?_
                          refine GE.seq ?_
                          refine GC.region ?_
                          refine GL.v Wmv ?_
                          refine GL.v Wsu ?_
                          refine GL.v Wag ?_
                          refine GL.nil ?_
                          -- round of loop 1, path TtFtT
                          refine GE.round ⟨_, _, _, _, _, _, _, _⟩ ?_ ?_ Wkp Wsb
                          · refine ⟨?_, ?_, ?_, ?_, ?_, ?_⟩ <;> first | omega | (simp only [List.length_append, List.length_cons, List.length_nil, List.length_take]; omega)
                          · dsimp only; omega
                        exact GAs.nil
                      exact GAs.nil
                    exact GAs.nil
                  exact GAs.nil
                exact GAs.nil
              exact GAs.nil
            · -- TtFtF
              refine GC.skip ?_
              refine GE.block ?_
              refine GE.block ?_
              refine GE.seq ?_
              refine GC.region ?_
              refine GL.v Wmv ?_
              refine GL.v Wsu ?_
              refine GL.v Wag ?_
              refine GL.nil ?_
              -- round of loop 1, path TtFtF
              refine GE.round ⟨_, _, _, _, _, _, _, _⟩ ?_ ?_ Wkp Wsb
              · refine ⟨?_, ?_, ?_, ?_, ?_, ?_⟩ <;> first | omega | (simp only [List.length_append, List.length_cons, List.length_nil, List.length_take]; omega)
              · dsimp only; omega
          · -- TtFf
            refine GL.unwant rfl rfl rfl rfl ?_
            refine GL.unwant rfl rfl rfl rfl ?_
            refine GL.unwant rfl rfl rfl rfl ?_
            refine GL.v Wpf ?_
            refine GL.v Wag ?_
            refine GL.nil ?_
            refine GE.seq ?_
            refine GC.cond_false rfl ?_
            refine GC.skip ?_
            refine GE.block ?_
            refine GE.block ?_
            refine GE.seq ?_
            refine GC.region ?_
            refine GL.v Wmv ?_
            refine GL.v Wsu ?_
            refine GL.v Wag ?_
            refine GL.nil ?_
            -- round of loop 1, path TtFf
            refine GE.round ⟨_, _, _, _, _, _, _, _⟩ ?_ ?_ Wkp Wsb
            · refine ⟨?_, ?_, ?_, ?_, ?_, ?_⟩ <;> first | omega | (simp only [List.length_append, List.length_cons, List.length_nil, List.length_take]; omega)
            · dsimp only; omega
      · -- Tf
        refine GL.unwant rfl rfl rfl rfl ?_
        refine GL.unwant rfl rfl rfl rfl ?_
        refine GL.unwant rfl rfl rfl rfl ?_
        refine GL.v Wpf ?_
        refine GL.v Wag ?_
        refine GL.nil ?_
        refine GE.seq ?_
        refine GC.cond_false rfl ?_
        refine GC.seq ?_
        refine GC.region ?_
        refine GL.v Wmv ?_
        refine GL.v Wgq ?_
        refine GL.v Wmv ?_
        refine GL.gs (fun h3 => ?_) (fun h3 => ?_)
        · -- Tft
          refine GL.want rfl rfl ?_
          refine GL.v Wmv ?_
          refine GL.want rfl rfl ?_
          refine GL.front (A := rdr _ _ _ _ _) Wpk ?_
          refine GL.call rfl rfl (pick_spec _ _ _ _ _ _ (by assumption) _ _ (by omega) (by omega) (by omega) (by omega)) ?_
          rintro _ _ ⟨x88, rfl, x88a, x88b, x88c, rfl⟩
          refine GL.want rfl rfl ?_
          refine GL.v Weq ?_
          refine GL.v Wpt ?_
          refine GL.v Wag ?_
          refine GL.nil ?_
          refine GE.seq ?_
          refine GC.ifs (fun h4 => ?_) (fun h4 => ?_)
          · -- TftT
            refine GC.seq ?_
            refine GC.region_any #[false, false, false, true, false, false, false, false, false, false, false, false, false, false, false, false, true, true, false, true] mixed ?_
            refine GA.take 0 #[false, false, true, true, true, true, true, true, true, true, true, true, true, true, true, true, true, false, false, false] rfl (by exact Ev.fieldAddr rfl) rfl rfl (by kernel_rfl) rfl (by kernel_rfl) (by kernel_rfl) (fun _ _ _ h => h) ?_
            refine GA.read 1 #[true, false, true, true, true, true, true, true, true, true, true, true, true, true, true, true, true, false, false, false] rfl (by exact Wlb) rfl rfl (by kernel_rfl) rfl (by kernel_rfl) (by kernel_rfl) (fun _ _ _ h => h) ?_
            refine GA.take 2 #[true, true, false, false, false, true, true, true, true, true, true, true, true, true, true, false, false, false, false, false] rfl (by exact Ev.move rfl) rfl rfl (by kernel_rfl) rfl (by kernel_rfl) (by kernel_rfl) (fun _ _ _ h => h) ?_
            refine GA.take 5 #[true, true, true, true, true, false, true, true, false, false, true, true, true, true, true, false, false, false, false, false] rfl (by exact Ev.move rfl) rfl rfl (by kernel_rfl) rfl (by kernel_rfl) (by kernel_rfl) (fun _ _ _ h => h) ?_
            refine GA.take 6 #[true, true, true, true, true, true, false, false, false, false, true, true, true, true, true, false, false, false, false, false] rfl (by exact Ev.move rfl) rfl rfl (by kernel_rfl) rfl (by kernel_rfl) (by kernel_rfl) (fun _ _ _ h => h) ?_
            refine GA.take 7 #[true, true, true, true, true, true, true, false, false, false, true, true, true, true, true, false, false, false, false, false] rfl (by exact Ev.sub rfl rfl (by omega)) rfl rfl (by kernel_rfl) rfl (by kernel_rfl) (by kernel_rfl) (fun _ _ _ h => h) ?_
            refine GA.read 8 #[true, true, true, true, true, true, true, true, false, false, true, true, true, true, true, false, false, false, false, false] rfl (by exact Wix) rfl rfl (by kernel_rfl) rfl (by kernel_rfl) (by kernel_rfl) (fun _ _ _ h => h) ?_
            refine GA.read 9 #[true, true, true, true, true, true, true, true, true, false, true, true, true, true, true, false, false, false, false, false] rfl (by exact Wle) rfl rfl (by kernel_rfl) rfl (by kernel_rfl) (by kernel_rfl) (fun _ _ _ h => h) ?_
            refine GA.take 10 #[true, true, true, true, true, true, true, true, true, true, false, true, true, false, false, false, false, false, false, false] rfl (by exact Ev.move rfl) rfl rfl (by kernel_rfl) rfl (by kernel_rfl) (by kernel_rfl) (fun _ _ _ h => h) ?_
            refine GA.take 11 #[true, true, true, true, true, true, true, true, true, true, true, false, false, false, false, false, false, false, false, false] rfl (by exact Ev.move rfl) rfl rfl (by kernel_rfl) rfl (by kernel_rfl) (by kernel_rfl) (fun _ _ _ h => h) ?_
            refine GA.take 12 #[true, true, true, true, true, true, true, true, true, true, true, true, false, false, false, false, false, false, false, false] rfl (by exact Ev.sub rfl rfl (by omega)) rfl rfl (by kernel_rfl) rfl (by kernel_rfl) (by kernel_rfl) (fun _ _ _ h => h) ?_
            refine GA.read 13 #[true, true, true, true, true, true, true, true, true, true, true, true, true, false, false, false, false, false, false, false] rfl (by exact Wix) rfl rfl (by kernel_rfl) rfl (by kernel_rfl) (by kernel_rfl) (fun _ _ _ h => h) ?_
            refine GA.read 14 #[true, true, true, true, true, true, true, true, true, true, true, true, true, true, false, false, false, false, false, false] rfl (by exact Wle) rfl rfl (by kernel_rfl) rfl (by kernel_rfl) (by kernel_rfl) (fun _ _ _ h => h) ?_
            refine GA.branch (rs := [3]) (JOk.live (by exact Wle) (JOk.live (by exact Wix) (JOk.live (by exact Wle) (JOk.live (by exact Wix) (JOk.live (by exact Wlb) JOk.nil))))) (by kernel_rfl) (by simp) ?_
            refine GAs.cons rfl ?_ ?_
            · -- TftT op 3
              refine GL.front (A := rdr _ _ _ _ _) Wpk ?_
              refine GL.call rfl rfl (pick_spec _ _ _ _ _ _ (by assumption) _ _ (by omega) (by omega) (by omega) (by omega)) ?_
              rintro _ _ ⟨x94, rfl, x94a, x94b, x94c, rfl⟩
              refine GL.nil ?_
              refine GE.any ?_
              refine GA.take 4 #[true, true, true, true, false, true, true, true, true, true, true, true, true, true, true, false, false, false, false, false] rfl (by exact Ev.add rfl rfl (by omega)) rfl rfl (by kernel_rfl) rfl (by kernel_rfl) (by kernel_rfl) (fun _ _ _ h => h) ?_
              refine GA.take 15 #[true, true, true, true, true, true, true, true, true, true, true, true, true, true, true, false, false, false, false, false] rfl (by exact Ev.build rfl (by first | exact bdPart ⟨_, _, _, _, _⟩ | exact bdReader _ _ _ | exact bdPart4 _ _ _ _ | exact bdForm _ _ _ | exact bdForm0 | exact bdGraph0 | exact bdGraph _ _ _ | exact bdNode1 _ | exact bdNode2 _ _ _ _ | exact bdHist0 | exact bdHist1 _ _ _ | exact bdHist2 _ _ _ _)) rfl rfl (by kernel_rfl) rfl (by kernel_rfl) (by kernel_rfl) (fun _ _ _ h => h) ?_
              refine GA.branch (rs := [16]) (JOk.live (by exact Wle) (JOk.live (by exact Wix) (JOk.live (by exact Wle) (JOk.live (by exact Wix) (JOk.live (by exact Wlb) JOk.nil))))) (by kernel_rfl) (by simp) ?_
              refine GAs.cons rfl ?_ ?_
              · -- TftT op 16
                refine GL.buildSlice rfl (by first | exact bsInt0 | exact bsInt1 _ | exact bsInt2 _ _ | exact bsInt3 _ _ _ | exact bsInt4 _ _ _ _ | exact bsInt5 _ _ _ _ _ | exact bsInt6 _ _ _ _ _ _ | exact bsInt7 _ _ _ _ _ _ _ | exact bsInt8 _ _ _ _ _ _ _ _ | exact bsInt9 _ _ _ _ _ _ _ _ _ | exact bsInt10 _ _ _ _ _ _ _ _ _ _ | exact bsPart0 | exact bsPart1 ⟨_, _, _, _, _⟩ | exact bsNode1 ⟨_, _, _, _⟩ | exact bsPtr3 _ _ _ | exact bsSl0 | exact bsSl1 ⟨_, _, _⟩) rfl (by decide) rfl ?_; intro g107
                refine GL.nil ?_
                refine GE.any ?_
                refine GA.branch (rs := [17]) (JOk.dead (by kernel_rfl) (JOk.dead (by kernel_rfl) (JOk.dead (by kernel_rfl) (JOk.dead (by kernel_rfl) (JOk.live (by exact Wlb) JOk.nil))))) (by kernel_rfl) (by simp) ?_
                refine GAs.cons rfl ?_ ?_
                · -- TftT op 17
                  first | (refine GL.append rfl rfl Wpk (by assumption) Wim (by first | rfl | (simp; done) | (simp; omega)) (by first | rfl | (simp; done) | (simp; omega)) (by first | omega | (simp; omega)) (by first | omega | (simp; omega)) rfl ?_; intro A108 c108) | (refine GL.append rfl rfl Wpk (Rd.of_pick Wpk) Imp.refl (by first | rfl | (simp; done) | (simp; omega)) (by first | rfl | (simp; done) | (simp; omega)) (by first | omega | (simp; omega)) (by first | omega | (simp; omega)) rfl ?_; intro A108 c108)
                  refine GL.nil ?_
                  refine GE.any ?_
                  refine GA.take 18 #[true, true, true, true, true, true, true, true, true, true, true, true, true, true, true, true, true, true, false, false] rfl (by exact Ev.fieldAddr rfl) rfl rfl (by kernel_rfl) rfl (by kernel_rfl) (by kernel_rfl) (fun _ _ _ h => h) ?_
                  refine GA.branch (rs := [19]) (JOk.dead (by kernel_rfl) (JOk.dead (by kernel_rfl) (JOk.dead (by kernel_rfl) (JOk.dead (by kernel_rfl) (JOk.dead (by kernel_rfl) JOk.nil))))) (by kernel_rfl) (by simp) ?_
                  refine GAs.cons rfl ?_ ?_
                  · -- TftT op 19
                    refine GL.store_blk rfl rfl rfl Wpk (Nat.lt_of_lt_of_le (Nat.le_of_ble_eq_true (by rfl)) (Nat.le_refl _)) (by rfl) (by rfl) ?_
                    refine GL.nil ?_
                    refine GE.any ?_
                    refine GA.done (JOk.dead (by kernel_rfl) (JOk.dead (by kernel_rfl) (JOk.dead (by kernel_rfl) (JOk.dead (by kernel_rfl) (JOk.dead (by kernel_rfl) JOk.nil))))) (by kernel_rfl) ?_
                    refine GE.seq ?_
                    refine GC.region_any #[false, false, false, false, false, false, false, false, true, true, false] mixed ?_
                    refine GA.take 0 #[false, true, true, false, true, true, true, true, true, false, false] rfl (by exact Ev.move rfl) rfl rfl (by kernel_rfl) rfl (by kernel_rfl) (by kernel_rfl) (fun _ _ _ h => h) ?_
                    refine GA.take 1 #[true, false, false, false, true, true, true, true, true, false, false] rfl (by exact Ev.move rfl) rfl rfl (by kernel_rfl) rfl (by kernel_rfl) (by kernel_rfl) (fun _ _ _ h => h) ?_
                    refine GA.take 2 #[true, true, false, false, true, true, true, true, true, false, false] rfl (by exact Ev.sub rfl rfl (by omega)) rfl rfl (by kernel_rfl) rfl (by kernel_rfl) (by kernel_rfl) (fun _ _ _ h => h) ?_
                    refine GA.take 3 #[true, true, true, false, true, true, true, true, true, false, false] rfl (by exact Ev.cut_to rfl rfl Wik (by omega)) rfl rfl (by kernel_rfl) rfl (by kernel_rfl) (by kernel_rfl) (fun _ _ _ h => h) ?_
                    refine GA.take 4 #[true, true, true, true, false, false, false, false, false, false, false] rfl (by exact Ev.fieldAddr rfl) rfl rfl (by kernel_rfl) rfl (by kernel_rfl) (by kernel_rfl) (fun _ _ _ h => h) ?_
                    refine GA.read 5 #[true, true, true, true, true, false, false, false, false, false, false] rfl (by exact Wlb) rfl rfl (by kernel_rfl) rfl (by kernel_rfl) (by kernel_rfl) (fun _ _ _ h => h) ?_
                    refine GA.take 6 #[true, true, true, true, true, true, false, false, false, false, false] rfl (by exact Ev.len rfl) rfl rfl (by kernel_rfl) rfl (by kernel_rfl) (by kernel_rfl) (fun _ _ _ h => h) ?_
                    refine GA.take 7 #[true, true, true, true, true, true, true, false, false, false, false] rfl (by exact Ev.sub rfl rfl (by simp only [List.length_append, List.length_cons, List.length_nil]; omega)) rfl rfl (by kernel_rfl) rfl (by kernel_rfl) (by kernel_rfl) (fun _ _ _ h => h) ?_
                    refine GA.branch (rs := [8]) (JOk.live (by exact Wlb) JOk.nil) (by kernel_rfl) (by simp) ?_
                    refine GAs.cons rfl ?_ ?_
                    · -- TftT op 8
                      refine GL.buildSlice rfl (by first | exact bsInt0 | exact bsInt1 _ | exact bsInt2 _ _ | exact bsInt3 _ _ _ | exact bsInt4 _ _ _ _ | exact bsInt5 _ _ _ _ _ | exact bsInt6 _ _ _ _ _ _ | exact bsInt7 _ _ _ _ _ _ _ | exact bsInt8 _ _ _ _ _ _ _ _ | exact bsInt9 _ _ _ _ _ _ _ _ _ | exact bsInt10 _ _ _ _ _ _ _ _ _ _ | exact bsPart0 | exact bsPart1 ⟨_, _, _, _, _⟩ | exact bsNode1 ⟨_, _, _, _⟩ | exact bsPtr3 _ _ _ | exact bsSl0 | exact bsSl1 ⟨_, _, _⟩) rfl (by decide) rfl ?_; intro g118
                      refine GL.nil ?_
                      refine GE.any ?_
                      refine GA.branch (rs := [9]) (JOk.dead (by kernel_rfl) JOk.nil) (by kernel_rfl) (by simp) ?_
                      refine GAs.cons rfl ?_ ?_
                      · -- TftT op 9
                        refine GL.row_take (E := intE) (A := A35) (((op ++ [(fp.length : Int)]).length : Int) - 2).toNat (by (repeat (first | exact Pick.head | apply Pick.tail))) ?_
                        first | (refine GL.append rfl rfl Wpk (by assumption) Wim (by first | rfl | (simp; done) | (simp; omega)) (by first | rfl | (simp; done) | (simp; omega)) (by first | omega | (simp; omega)) (by first | omega | (simp; omega)) rfl ?_; intro A119 c119) | (refine GL.append rfl rfl Wpk (Rd.of_pick Wpk) Imp.refl (by first | rfl | (simp; done) | (simp; omega)) (by first | rfl | (simp; done) | (simp; omega)) (by first | omega | (simp; omega)) (by first | omega | (simp; omega)) rfl ?_; intro A119 c119)
                        refine GL.nil ?_
                        refine GE.any ?_
                        refine GA.take 10 #[true, true, true, true, true, true, true, true, true, true, false] rfl (by exact Ev.assign rfl) rfl rfl (by kernel_rfl) rfl (by kernel_rfl) (by kernel_rfl) (fun _ _ _ h => h) ?_
                        refine GA.done (JOk.dead (by kernel_rfl) JOk.nil) (by kernel_rfl) ?_
                        refine GE.block ?_
                        refine GE.block ?_
                        refine GE.seq ?_
                        refine GC.region ?_
                        refine GL.v Wmv ?_
                        refine GL.v Wsu ?_
                        refine GL.v Wag ?_
                        refine GL.nil ?_
                        -- round of loop 1, path TftT
                        refine GE.round ⟨_, _, _, _, _, _, _, _⟩ ?_ ?_ Wkp Wsb
                        · refine ⟨?_, ?_, ?_, ?_, ?_, ?_⟩ <;> first | omega | (simp only [List.length_append, List.length_cons, List.length_nil, List.length_take]; omega)
                        · dsimp only; omega
                      exact GAs.nil
                    exact GAs.nil
                  exact GAs.nil
                exact GAs.nil
              exact GAs.nil
            exact GAs.nil
          · -- TftF
            refine GC.skip ?_
            refine GE.block ?_
            refine GE.block ?_
            refine GE.seq ?_
            refine GC.region ?_
            refine GL.v Wmv ?_
            refine GL.v Wsu ?_
            refine GL.v Wag ?_
            refine GL.nil ?_
            -- round of loop 1, path TftF
            refine GE.round ⟨_, _, _, _, _, _, _, _⟩ ?_ ?_ Wkp Wsb
            · refine ⟨?_, ?_, ?_, ?_, ?_, ?_⟩ <;> first | omega | (simp only [List.length_append, List.length_cons, List.length_nil, List.length_take]; omega)
            · dsimp only; omega
        · -- Tff
          refine GL.unwant rfl rfl rfl rfl ?_
          refine GL.unwant rfl rfl rfl rfl ?_
          refine GL.unwant rfl rfl rfl rfl ?_
          refine GL.v Wpf ?_
          refine GL.v Wag ?_
          refine GL.nil ?_
          refine GE.seq ?_
          refine GC.cond_false rfl ?_
          refine GC.skip ?_
          refine GE.block ?_
          refine GE.block ?_
          refine GE.seq ?_
          refine GC.region ?_
          refine GL.v Wmv ?_
          refine GL.v Wsu ?_
          refine GL.v Wag ?_
          refine GL.nil ?_
          -- round of loop 1, path Tff
          refine GE.round ⟨_, _, _, _, _, _, _, _⟩ ?_ ?_ Wkp Wsb
          · refine ⟨?_, ?_, ?_, ?_, ?_, ?_⟩ <;> first | omega | (simp only [List.length_append, List.length_cons, List.length_nil, List.length_take]; omega)
          · dsimp only; omega
  · -- F
    refine GC.exit ?_
    refine GE.seq_exit ?_
    refine GE.loop_exit ?_
    refine GE.block_exit ?_
    refine GE.seq ?_
    refine GC.seq ?_
    refine GC.block ?_
    -- loop 2: carried slots [6]
    refine GC.loopK (α := GFst) (fun s => (s.op.length : Int) ≤ 6 ∧ (s.fp.length : Int) ≤ 18 - s.op.length ∧ p ≤ s.p ∧ s.p ≤ p + 43 - s.op.length) (fun s => [(6, .slice s.B s.op.length s.d)]) [(0, _), (1, _), (4, _), (5, _)] (fun s => row intE s.B s.d s.op :: row partE s.D s.e s.fp :: blk g5 69 [.slice s.D s.fp.length s.e] :: blk g4 69 [.slice none 0 0] :: rdr g A c bs s.p :: L) (fun s => s.op.length) ⟨D, e, fp, B', d', op, p', n⟩ Wkp Wsb ⟨by dsimp only; omega, by dsimp only; omega, by dsimp only; omega, by dsimp only; omega⟩ ?_
    rintro ⟨D2, e2, fp2, B2, d2, op2, p2, n2⟩ ⟨hop2, hfp2, hp2, hp3⟩
    dsimp only at hop2 hfp2 hp2 hp3 ⊢
    refine GC.fact (fun w hs => (Rd.of_pick (E := intE) (A := B2) (xs := op2) (c := d2) (by (repeat (first | exact Pick.head | apply Pick.tail)))).le w hs) (fun hcap2 => ?_)
    refine GC.seq ?_
    refine GC.seq ?_
    refine GC.region ?_
    refine GL.v Wmv ?_
    refine GL.v Wln ?_
    refine GL.v Wgt ?_
    refine GL.nil ?_
    refine GE.seq ?_
    refine GC.ifs (fun h2 => ?_) (fun h2 => ?_)
    · -- FT
      refine GC.skip ?_
      refine GE.seq ?_
      refine GC.block ?_
      refine GC.seq ?_
      refine GC.region ?_
      refine GL.v Wmv ?_
      refine GL.v Wln ?_
      refine GL.v Wag ?_
      refine GL.nil ?_
      refine GE.seq ?_
      refine GC.seq ?_
      refine GC.region_any #[false, false, false, true, false, false, false, false, false, false, false, false, false, false, false, false, true, true, false, true] mixed ?_
      refine GA.take 0 #[false, false, true, true, true, true, true, true, true, true, true, true, true, true, true, true, true, false, false, false] rfl (by exact Ev.fieldAddr rfl) rfl rfl (by kernel_rfl) rfl (by kernel_rfl) (by kernel_rfl) (fun _ _ _ h => h) ?_
      refine GA.read 1 #[true, false, true, true, true, true, true, true, true, true, true, true, true, true, true, true, true, false, false, false] rfl (by exact Wlb) rfl rfl (by kernel_rfl) rfl (by kernel_rfl) (by kernel_rfl) (fun _ _ _ h => h) ?_
      refine GA.take 2 #[true, true, false, false, false, true, true, true, true, true, true, true, true, true, true, false, false, false, false, false] rfl (by exact Ev.move rfl) rfl rfl (by kernel_rfl) rfl (by kernel_rfl) (by kernel_rfl) (fun _ _ _ h => h) ?_
      refine GA.take 5 #[true, true, true, true, true, false, true, true, false, false, true, true, true, true, true, false, false, false, false, false] rfl (by exact Ev.move rfl) rfl rfl (by kernel_rfl) rfl (by kernel_rfl) (by kernel_rfl) (fun _ _ _ h => h) ?_
      refine GA.take 6 #[true, true, true, true, true, true, false, false, false, false, true, true, true, true, true, false, false, false, false, false] rfl (by exact Ev.move rfl) rfl rfl (by kernel_rfl) rfl (by kernel_rfl) (by kernel_rfl) (fun _ _ _ h => h) ?_
      refine GA.take 7 #[true, true, true, true, true, true, true, false, false, false, true, true, true, true, true, false, false, false, false, false] rfl (by exact Ev.sub rfl rfl (by omega)) rfl rfl (by kernel_rfl) rfl (by kernel_rfl) (by kernel_rfl) (fun _ _ _ h => h) ?_
      refine GA.read 8 #[true, true, true, true, true, true, true, true, false, false, true, true, true, true, true, false, false, false, false, false] rfl (by exact Wix) rfl rfl (by kernel_rfl) rfl (by kernel_rfl) (by kernel_rfl) (fun _ _ _ h => h) ?_
      refine GA.read 9 #[true, true, true, true, true, true, true, true, true, false, true, true, true, true, true, false, false, false, false, false] rfl (by exact Wle) rfl rfl (by kernel_rfl) rfl (by kernel_rfl) (by kernel_rfl) (fun _ _ _ h => h) ?_
      refine GA.take 10 #[true, true, true, true, true, true, true, true, true, true, false, true, true, false, false, false, false, false, false, false] rfl (by exact Ev.move rfl) rfl rfl (by kernel_rfl) rfl (by kernel_rfl) (by kernel_rfl) (fun _ _ _ h => h) ?_
      refine GA.take 11 #[true, true, true, true, true, true, true, true, true, true, true, false, false, false, false, false, false, false, false, false] rfl (by exact Ev.move rfl) rfl rfl (by kernel_rfl) rfl (by kernel_rfl) (by kernel_rfl) (fun _ _ _ h => h) ?_
      refine GA.take 12 #[true, true, true, true, true, true, true, true, true, true, true, true, false, false, false, false, false, false, false, false] rfl (by exact Ev.sub rfl rfl (by omega)) rfl rfl (by kernel_rfl) rfl (by kernel_rfl) (by kernel_rfl) (fun _ _ _ h => h) ?_
      refine GA.read 13 #[true, true, true, true, true, true, true, true, true, true, true, true, true, false, false, false, false, false, false, false] rfl (by exact Wix) rfl rfl (by kernel_rfl) rfl (by kernel_rfl) (by kernel_rfl) (fun _ _ _ h => h) ?_
      refine GA.read 14 #[true, true, true, true, true, true, true, true, true, true, true, true, true, true, false, false, false, false, false, false] rfl (by exact Wle) rfl rfl (by kernel_rfl) rfl (by kernel_rfl) (by kernel_rfl) (fun _ _ _ h => h) ?_
      refine GA.branch (rs := [3]) (JOk.live (by exact Wle) (JOk.live (by exact Wix) (JOk.live (by exact Wle) (JOk.live (by exact Wix) (JOk.live (by exact Wlb) JOk.nil))))) (by kernel_rfl) (by simp) ?_
      refine GAs.cons rfl ?_ ?_
      · -- FT op 3
        refine GL.front (A := rdr _ _ _ _ _) Wpk ?_
        refine GL.call rfl rfl (pick_spec _ _ _ _ _ _ (by assumption) _ _ (by omega) (by omega) (by omega) (by omega)) ?_
        rintro _ _ ⟨x128, rfl, x128a, x128b, x128c, rfl⟩
        refine GL.nil ?_
        refine GE.any ?_
        refine GA.take 4 #[true, true, true, true, false, true, true, true, true, true, true, true, true, true, true, false, false, false, false, false] rfl (by exact Ev.add rfl rfl (by omega)) rfl rfl (by kernel_rfl) rfl (by kernel_rfl) (by kernel_rfl) (fun _ _ _ h => h) ?_
        refine GA.take 15 #[true, true, true, true, true, true, true, true, true, true, true, true, true, true, true, false, false, false, false, false] rfl (by exact Ev.build rfl (by first | exact bdPart ⟨_, _, _, _, _⟩ | exact bdReader _ _ _ | exact bdPart4 _ _ _ _ | exact bdForm _ _ _ | exact bdForm0 | exact bdGraph0 | exact bdGraph _ _ _ | exact bdNode1 _ | exact bdNode2 _ _ _ _ | exact bdHist0 | exact bdHist1 _ _ _ | exact bdHist2 _ _ _ _)) rfl rfl (by kernel_rfl) rfl (by kernel_rfl) (by kernel_rfl) (fun _ _ _ h => h) ?_
        refine GA.branch (rs := [16]) (JOk.live (by exact Wle) (JOk.live (by exact Wix) (JOk.live (by exact Wle) (JOk.live (by exact Wix) (JOk.live (by exact Wlb) JOk.nil))))) (by kernel_rfl) (by simp) ?_
        refine GAs.cons rfl ?_ ?_
        · -- FT op 16
          refine GL.buildSlice rfl (by first | exact bsInt0 | exact bsInt1 _ | exact bsInt2 _ _ | exact bsInt3 _ _ _ | exact bsInt4 _ _ _ _ | exact bsInt5 _ _ _ _ _ | exact bsInt6 _ _ _ _ _ _ | exact bsInt7 _ _ _ _ _ _ _ | exact bsInt8 _ _ _ _ _ _ _ _ | exact bsInt9 _ _ _ _ _ _ _ _ _ | exact bsInt10 _ _ _ _ _ _ _ _ _ _ | exact bsPart0 | exact bsPart1 ⟨_, _, _, _, _⟩ | exact bsNode1 ⟨_, _, _, _⟩ | exact bsPtr3 _ _ _ | exact bsSl0 | exact bsSl1 ⟨_, _, _⟩) rfl (by decide) rfl ?_; intro g141
          refine GL.nil ?_
          refine GE.any ?_
          refine GA.branch (rs := [17]) (JOk.dead (by kernel_rfl) (JOk.dead (by kernel_rfl) (JOk.dead (by kernel_rfl) (JOk.dead (by kernel_rfl) (JOk.live (by exact Wlb) JOk.nil))))) (by kernel_rfl) (by simp) ?_
          refine GAs.cons rfl ?_ ?_
          · -- FT op 17
            first | (refine GL.append rfl rfl Wpk (by assumption) Wim (by first | rfl | (simp; done) | (simp; omega)) (by first | rfl | (simp; done) | (simp; omega)) (by first | omega | (simp; omega)) (by first | omega | (simp; omega)) rfl ?_; intro A142 c142) | (refine GL.append rfl rfl Wpk (Rd.of_pick Wpk) Imp.refl (by first | rfl | (simp; done) | (simp; omega)) (by first | rfl | (simp; done) | (simp; omega)) (by first | omega | (simp; omega)) (by first | omega | (simp; omega)) rfl ?_; intro A142 c142)
            refine GL.nil ?_
            refine GE.any ?_
            refine GA.take 18 #[true, true, true, true, true, true, true, true, true, true, true, true, true, true, true, true, true, true, false, false] rfl (by exact Ev.fieldAddr rfl) rfl rfl (by kernel_rfl) rfl (by kernel_rfl) (by kernel_rfl) (fun _ _ _ h => h) ?_
            refine GA.branch (rs := [19]) (JOk.dead (by kernel_rfl) (JOk.dead (by kernel_rfl) (JOk.dead (by kernel_rfl) (JOk.dead (by kernel_rfl) (JOk.dead (by kernel_rfl) JOk.nil))))) (by kernel_rfl) (by simp) ?_
            refine GAs.cons rfl ?_ ?_
            · -- FT op 19
              refine GL.store_blk rfl rfl rfl Wpk (Nat.lt_of_lt_of_le (Nat.le_of_ble_eq_true (by rfl)) (Nat.le_refl _)) (by rfl) (by rfl) ?_
              refine GL.nil ?_
              refine GE.any ?_
              refine GA.done (JOk.dead (by kernel_rfl) (JOk.dead (by kernel_rfl) (JOk.dead (by kernel_rfl) (JOk.dead (by kernel_rfl) (JOk.dead (by kernel_rfl) JOk.nil))))) (by kernel_rfl) ?_
              refine GE.seq ?_
              refine GC.region_any #[false, false, false, false, false, false, false, false, true, true, false] mixed ?_
              refine GA.take 0 #[false, true, true, false, true, true, true, true, true, false, false] rfl (by exact Ev.move rfl) rfl rfl (by kernel_rfl) rfl (by kernel_rfl) (by kernel_rfl) (fun _ _ _ h => h) ?_
              refine GA.take 1 #[true, false, false, false, true, true, true, true, true, false, false] rfl (by exact Ev.move rfl) rfl rfl (by kernel_rfl) rfl (by kernel_rfl) (by kernel_rfl) (fun _ _ _ h => h) ?_
              refine GA.take 2 #[true, true, false, false, true, true, true, true, true, false, false] rfl (by exact Ev.sub rfl rfl (by omega)) rfl rfl (by kernel_rfl) rfl (by kernel_rfl) (by kernel_rfl) (fun _ _ _ h => h) ?_
              refine GA.take 3 #[true, true, true, false, true, true, true, true, true, false, false] rfl (by exact Ev.cut_to rfl rfl Wik (by omega)) rfl rfl (by kernel_rfl) rfl (by kernel_rfl) (by kernel_rfl) (fun _ _ _ h => h) ?_
              refine GA.take 4 #[true, true, true, true, false, false, false, false, false, false, false] rfl (by exact Ev.fieldAddr rfl) rfl rfl (by kernel_rfl) rfl (by kernel_rfl) (by kernel_rfl) (fun _ _ _ h => h) ?_
              refine GA.read 5 #[true, true, true, true, true, false, false, false, false, false, false] rfl (by exact Wlb) rfl rfl (by kernel_rfl) rfl (by kernel_rfl) (by kernel_rfl) (fun _ _ _ h => h) ?_
              refine GA.take 6 #[true, true, true, true, true, true, false, false, false, false, false] rfl (by exact Ev.len rfl) rfl rfl (by kernel_rfl) rfl (by kernel_rfl) (by kernel_rfl) (fun _ _ _ h => h) ?_
              refine GA.take 7 #[true, true, true, true, true, true, true, false, false, false, false] rfl (by exact Ev.sub rfl rfl (by simp only [List.length_append, List.length_cons, List.length_nil]; omega)) rfl rfl (by kernel_rfl) rfl (by kernel_rfl) (by kernel_rfl) (fun _ _ _ h => h) ?_
              refine GA.branch (rs := [8]) (JOk.live (by exact Wlb) JOk.nil) (by kernel_rfl) (by simp) ?_
              refine GAs.cons rfl ?_ ?_
              · -- FT op 8
                refine GL.buildSlice rfl (by first | exact bsInt0 | exact bsInt1 _ | exact bsInt2 _ _ | exact bsInt3 _ _ _ | exact bsInt4 _ _ _ _ | exact bsInt5 _ _ _ _ _ | exact bsInt6 _ _ _ _ _ _ | exact bsInt7 _ _ _ _ _ _ _ | exact bsInt8 _ _ _ _ _ _ _ _ | exact bsInt9 _ _ _ _ _ _ _ _ _ | exact bsInt10 _ _ _ _ _ _ _ _ _ _ | exact bsPart0 | exact bsPart1 ⟨_, _, _, _, _⟩ | exact bsNode1 ⟨_, _, _, _⟩ | exact bsPtr3 _ _ _ | exact bsSl0 | exact bsSl1 ⟨_, _, _⟩) rfl (by decide) rfl ?_; intro g152
                refine GL.nil ?_
                refine GE.any ?_
                refine GA.branch (rs := [9]) (JOk.dead (by kernel_rfl) JOk.nil) (by kernel_rfl) (by simp) ?_
                refine GAs.cons rfl ?_ ?_
                · -- FT op 9
                  refine GL.row_take (E := intE) (A := B2) ((op2.length : Int) - 2).toNat (by (repeat (first | exact Pick.head | apply Pick.tail))) ?_
                  first | (refine GL.append rfl rfl Wpk (by assumption) Wim (by first | rfl | (simp; done) | (simp; omega)) (by first | rfl | (simp; done) | (simp; omega)) (by first | omega | (simp; omega)) (by first | omega | (simp; omega)) rfl ?_; intro A153 c153) | (refine GL.append rfl rfl Wpk (Rd.of_pick Wpk) Imp.refl (by first | rfl | (simp; done) | (simp; omega)) (by first | rfl | (simp; done) | (simp; omega)) (by first | omega | (simp; omega)) (by first | omega | (simp; omega)) rfl ?_; intro A153 c153)
                  refine GL.nil ?_
                  refine GE.any ?_
                  refine GA.take 10 #[true, true, true, true, true, true, true, true, true, true, false] rfl (by exact Ev.assign rfl) rfl rfl (by kernel_rfl) rfl (by kernel_rfl) (by kernel_rfl) (fun _ _ _ h => h) ?_
                  refine GA.done (JOk.dead (by kernel_rfl) JOk.nil) (by kernel_rfl) ?_
                  refine GE.block ?_
                  -- round of loop 2, path FT
                  refine GE.round ⟨_, _, _, _, _, _, _, n2⟩ ?_ ?_ Wkp Wsb
                  · refine ⟨?_, ?_, ?_, ?_⟩ <;> first | omega | (simp only [List.length_append, List.length_cons, List.length_nil, List.length_take]; omega)
                  · simp only [List.length_append, List.length_cons, List.length_nil, List.length_take]; omega
                exact GAs.nil
              exact GAs.nil
            exact GAs.nil
          exact GAs.nil
        exact GAs.nil
      exact GAs.nil
    · -- FF
      refine GC.exit ?_
      refine GE.seq_exit ?_
      refine GE.loop_exit ?_
      refine GE.block_exit ?_
      refine GE.seq ?_
      refine GC.seq ?_
      refine GC.seq ?_
      refine GC.region ?_
      refine GL.v Wlba ?_
      refine GL.callF rfl rfl (validFormula_spec _ _ _ _ _ Wrd Wom) ?_
      refine GL.v Wnt ?_
      refine GL.nil ?_
      refine GE.seq ?_
      refine GC.ifs (fun h3 => ?_) (fun h3 => ?_)
      · -- FFT
        refine GC.seq ?_
        refine GC.region ?_
        refine GL.v Wmv ?_
        refine GL.v Wmv ?_
        refine GL.front (A := rdr _ _ _ _ _) Wpk ?_
        refine GL.call rfl rfl (readPartOf_spec _ _ _ _ _ _ (by assumption) _ (by omega) (by omega) _ _ _ (Rd.imp (by assumption) Wim) (by assumption)) ?_
        rintro _ _ ⟨q159, rfl, hq159, rfl⟩
        refine GL.buildSlice rfl (by first | exact bsInt0 | exact bsInt1 _ | exact bsInt2 _ _ | exact bsInt3 _ _ _ | exact bsInt4 _ _ _ _ | exact bsInt5 _ _ _ _ _ | exact bsInt6 _ _ _ _ _ _ | exact bsInt7 _ _ _ _ _ _ _ | exact bsInt8 _ _ _ _ _ _ _ _ | exact bsInt9 _ _ _ _ _ _ _ _ _ | exact bsInt10 _ _ _ _ _ _ _ _ _ _ | exact bsPart0 | exact bsPart1 ⟨_, _, _, _, _⟩ | exact bsNode1 ⟨_, _, _, _⟩ | exact bsPtr3 _ _ _ | exact bsSl0 | exact bsSl1 ⟨_, _, _⟩) rfl (by decide) rfl ?_; intro g160
        refine GL.v (by exact EvP.r (Ev.build rfl (by first | exact bdPart ⟨_, _, _, _, _⟩ | exact bdReader _ _ _ | exact bdPart4 _ _ _ _ | exact bdForm _ _ _ | exact bdForm0 | exact bdGraph0 | exact bdGraph _ _ _ | exact bdNode1 _ | exact bdNode2 _ _ _ _ | exact bdHist0 | exact bdHist1 _ _ _ | exact bdHist2 _ _ _ _))) ?_
        refine GL.store_varN rfl rfl rfl Wpk (by rfl) (by rfl) (by rfl) ?_
        refine GL.nil ?_
        refine GE.seq ?_
        refine GC.ret ?_
        refine GE.seq_ret ?_
        -- returns, path FFT
        refine GE.ret_cell (L' := row partE (some ⟨g160, 0, none⟩) 1 [⟨q159.kind, q159.a, q159.b, q159.c, q159.n⟩] :: rdr g A c bs (p2 + 1) :: L) (.inl rfl) rfl rfl rfl (BlkRd.of_pick Wpk) (by rfl) Wsb ?_
        exact ⟨some ⟨g160, 0, none⟩, 1, [_], p2 + 1, rfl, by simp, by simp, by omega, by omega, rfl⟩
      · -- FFF
        refine GC.skip ?_
        refine GE.seq ?_
        refine GC.seq ?_
        refine GC.region ?_
        refine GL.v Wlba ?_
        refine GL.store_varN rfl rfl rfl Wpk (by rfl) (by rfl) (by rfl) ?_
        refine GL.nil ?_
        refine GE.seq ?_
        refine GC.ret ?_
        -- returns, path FFF
        refine GE.ret_cell (L' := row partE D2 e2 fp2 :: rdr g A c bs p2 :: L) (.inl rfl) rfl rfl rfl (BlkRd.of_pick Wpk) (by rfl) Wsb ?_
        have hv := validF_iff.1 (show validF fp2 = true by simpa using h3)
        exact ⟨D2, e2, fp2, p2, rfl, hv.1, hv.2.1, by omega, by omega, rfl⟩
end SG
