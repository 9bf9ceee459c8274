-- Written by a program of this session (wip/patch.py turns a copy of the kit's print): the functions that the law reaches, and their walks.
import Derived.Test.YtpcladboobfkhaaPFnWorkx0
import Derived.Test.YtpcladboobfkhaaPFnWorkx4
import Derived.Test.YtpcladboobfkhaaPFnWorkx5
import Derived.Test.YtpcladboobfkhaaCFnWork
namespace Go.Proofs.Ytpcladboobfkhaa.PFnWork
open Go.RowKit Go.Proofs.YtpcladboobfkhaaW.PrintWords Go.Proofs.YtpcladboobfkhaaW.PrintLast Go.Proofs.YtpcladboobfkhaaW.PrintMore Go.Proofs.YtpcladboobfkhaaW.Mine
attribute [local go_sem] max2_int min2_int max_two min_two max_three min_three max_four min_four   -- for this text's walks alone
set_option linter.unusedVariables false
set_option linter.unusedSimpArgs false

/-! ### spec_l6DrawCode: function 77 -/
mutual
def spec_l6DrawCode.j0 : Nat → List (S25) → List Int → Int → Int → Option ((List (S25)) × Int × Int)
 | 0, _, _, _, _ => none
 | k + 1, x3, bQ, b6, b7 => (spec_l1Below.f bQ b6 b7 14).bind fun dd => (spec_l6DrawCode.l0 k x3 dd.1 0 bQ dd.2.1 dd.2.2)
def spec_l6DrawCode.l0 : Nat → List (S25) → Int → Int → List Int → Int → Int → Option ((List (S25)) × Int × Int)
 | 0, _, _, _, _, _, _ => none
 | k + 1, x3, x4, x5, bQ, b6, b7 => if x5 < x4 then ((spec_l6DrawIns.f k bQ b6 b7).bind fun bz => (if x3.length < 3518437208883 then (spec_l6DrawCode.l0 k (x3 ++ [(⟨bz.1, bz.2.1, bz.2.2.1, bz.2.2.2.1, bz.2.2.2.2.1⟩ : S25)]) x4 (wrap64 (x5 + 1)) bQ bz.2.2.2.2.2.1 bz.2.2.2.2.2.2) else (none))) else (if x3.length < 3518437208883 then (some ((x3 ++ [(⟨15, 0, 0, 0, 0⟩ : S25)]), b6, b7)) else (none))
end
def spec_l6DrawCode.f (k : Nat) (s0_0 : List Int) (s0_1 : Int) (s0_2 : Int) : Option ((List (S25)) × Int × Int) := (some (([] : List (S25)) : List (S25))).bind fun ba => ((spec_l1Below.f s0_0 s0_1 s0_2 4).bind fun bb => (if bb.1 = 0 then ((some (([(⟨1, 1, 0, 0, 3⟩ : S25), (⟨5, 2, 0, 1, 0⟩ : S25), (⟨11, 0, 0, 2, 1⟩ : S25), (⟨10, 3, 0, 0, 1⟩ : S25)] : List (S25)) : List (S25))).bind fun bk => (if ba.length + bk.length < 3518437208883 then (spec_l6DrawCode.j0 k (ba ++ bk) s0_0 bb.2.1 bb.2.2) else (none))) else (if bb.1 = 1 then ((some (([(⟨1, 1, 0, 0, 2⟩ : S25), (⟨6, 4, 0, 1, 0⟩ : S25), (⟨7, 2, 0, 4, 0⟩ : S25), (⟨8, 3, 2, 4, 0⟩ : S25)] : List (S25)) : List (S25))).bind fun bl => (if ba.length + bl.length < 3518437208883 then (spec_l6DrawCode.j0 k (ba ++ bl) s0_0 bb.2.1 bb.2.2) else (none))) else (if bb.1 = 2 then ((some (([(⟨1, 1, 0, 0, 5⟩ : S25), (⟨1, 2, 0, 0, (-1)⟩ : S25), (⟨2, 1, 1, 2, 0⟩ : S25), (⟨13, 0, 1, 0, 2⟩ : S25), (⟨13, 0, 5, 0, (-2)⟩ : S25)] : List (S25)) : List (S25))).bind fun bm => (if ba.length + bm.length < 3518437208883 then (spec_l6DrawCode.j0 k (ba ++ bm) s0_0 bb.2.1 bb.2.2) else (none))) else (spec_l6DrawCode.j0 k ba s0_0 bb.2.1 bb.2.2)))))
theorem spec_l6DrawCode.mono_l : ∀ k, (∀ y0 y1 y2 y3, LeO (spec_l6DrawCode.j0 k y0 y1 y2 y3) (spec_l6DrawCode.j0 (k + 1) y0 y1 y2 y3)) ∧ (∀ y0 y1 y2 y3 y4 y5, LeO (spec_l6DrawCode.l0 k y0 y1 y2 y3 y4 y5) (spec_l6DrawCode.l0 (k + 1) y0 y1 y2 y3 y4 y5))
 | 0 => ⟨fun _ _ _ _ r h => by simp [spec_l6DrawCode.j0] at h, fun _ _ _ _ _ _ r h => by simp [spec_l6DrawCode.l0] at h⟩
 | k + 1 => by
  obtain ⟨ih0, ih1⟩ := spec_l6DrawCode.mono_l k; refine ⟨?_, ?_⟩
  ·intro y0 y1 y2 y3
   unfold spec_l6DrawCode.j0
   repeat' first
   | (with_reducible exact ih0 _ _ _ _)
   | (with_reducible exact ih1 _ _ _ _ _ _)
   | (with_reducible exact spec_l6DrawIns.mono _ _ _ _)
   | (with_reducible exact LeO.refl _)
   | (with_reducible exact LeO.none _)
   | (with_reducible refine LeO.ite ?_ ?_)
   | (with_reducible refine LeO.bind ?_ (fun _ => ?_))
   | exact ih0 _ _ _ _
   | exact ih1 _ _ _ _ _ _
   | exact spec_l6DrawIns.mono _ _ _ _
   | exact LeO.none _
   | refine LeO.ite ?_ ?_
   | refine LeO.bind ?_ (fun _ => ?_)
  ·intro y0 y1 y2 y3 y4 y5
   unfold spec_l6DrawCode.l0
   repeat' first
   | (with_reducible exact ih0 _ _ _ _)
   | (with_reducible exact ih1 _ _ _ _ _ _)
   | (with_reducible exact spec_l6DrawIns.mono _ _ _ _)
   | (with_reducible exact LeO.refl _)
   | (with_reducible exact LeO.none _)
   | (with_reducible refine LeO.ite ?_ ?_)
   | (with_reducible refine LeO.bind ?_ (fun _ => ?_))
   | exact ih0 _ _ _ _
   | exact ih1 _ _ _ _ _ _
   | exact spec_l6DrawIns.mono _ _ _ _
   | exact LeO.none _
   | refine LeO.ite ?_ ?_
   | refine LeO.bind ?_ (fun _ => ?_)
theorem spec_l6DrawCode.mono : ∀ a0 a1 a2 k, LeO (spec_l6DrawCode.f k a0 a1 a2) (spec_l6DrawCode.f (k + 1) a0 a1 a2) := by
 intro a0 a1 a2 k; obtain ⟨ih0, ih1⟩ := spec_l6DrawCode.mono_l k
 unfold spec_l6DrawCode.f
 repeat' first
   | (with_reducible exact ih0 _ _ _ _)
   | (with_reducible exact ih1 _ _ _ _ _ _)
   | (with_reducible exact spec_l6DrawIns.mono _ _ _ _)
   | (with_reducible exact LeO.refl _)
   | (with_reducible exact LeO.none _)
   | (with_reducible refine LeO.ite ?_ ?_)
   | (with_reducible refine LeO.bind ?_ (fun _ => ?_))
   | exact ih0 _ _ _ _
   | exact ih1 _ _ _ _ _ _
   | exact spec_l6DrawIns.mono _ _ _ _
   | exact LeO.none _
   | refine LeO.ite ?_ ?_
   | refine LeO.bind ?_ (fun _ => ?_)
set_option maxHeartbeats 8000000 in
set_option maxRecDepth 100000 in
theorem spec_l6DrawCode.calls (k : Nat) (g : Nat) (s0_0 : List Int) (s0_1 : Int) (s0_2 : Int) (r1 : List (S25)) (r2 : Int) (r3 : Int) (w0 w : World) (hI : IsS69 w0 w g s0_0 s0_1 s0_2) (hB : Below w0.heap.size w0 w) (h : spec_l6DrawCode.f k s0_0 s0_1 s0_2 = some (r1, r2, r3)) :
  Calls Try.prog 77 #[.pointer (some ⟨g, 0, none⟩)] w fun e w' => ∃ v0_ : Value, e = .returned (v0_) ∧ Kd.R k25 25 w' w.heap.size (fun _ => True) v0_ r1 ∧ IsS69 w0 w' g s0_0 r2 r3 ∧ Below w0.heap.size w0 w' ∧ KeepBut w w' g none := by
 have hu25 := Try.underlying25; have HI0 := Aside0.mk hI; have HK := Aside0.mk (KeepBut.refl w g none); have HL := Aside0.mk hB.size; clear hI; have HW0 := Aside0.mk hB.size; have HB := Aside0.mk hB; clear hB; have H : ((some (([] : List (S25)) : List (S25))).bind fun ba => ((spec_l1Below.f s0_0 s0_1 s0_2 4).bind fun bb => (if bb.1 = 0 then ((some (([(⟨1, 1, 0, 0, 3⟩ : S25), (⟨5, 2, 0, 1, 0⟩ : S25), (⟨11, 0, 0, 2, 1⟩ : S25), (⟨10, 3, 0, 0, 1⟩ : S25)] : List (S25)) : List (S25))).bind fun bk => (if ba.length + bk.length < 3518437208883 then (spec_l6DrawCode.j0 k (ba ++ bk) s0_0 bb.2.1 bb.2.2) else (none))) else (if bb.1 = 1 then ((some (([(⟨1, 1, 0, 0, 2⟩ : S25), (⟨6, 4, 0, 1, 0⟩ : S25), (⟨7, 2, 0, 4, 0⟩ : S25), (⟨8, 3, 2, 4, 0⟩ : S25)] : List (S25)) : List (S25))).bind fun bl => (if ba.length + bl.length < 3518437208883 then (spec_l6DrawCode.j0 k (ba ++ bl) s0_0 bb.2.1 bb.2.2) else (none))) else (if bb.1 = 2 then ((some (([(⟨1, 1, 0, 0, 5⟩ : S25), (⟨1, 2, 0, 0, (-1)⟩ : S25), (⟨2, 1, 1, 2, 0⟩ : S25), (⟨13, 0, 1, 0, 2⟩ : S25), (⟨13, 0, 5, 0, (-2)⟩ : S25)] : List (S25)) : List (S25))).bind fun bm => (if ba.length + bm.length < 3518437208883 then (spec_l6DrawCode.j0 k (ba ++ bm) s0_0 bb.2.1 bb.2.2) else (none))) else (spec_l6DrawCode.j0 k ba s0_0 bb.2.1 bb.2.2)))))) = some (r1, r2, r3) := h; clear h; obtain ⟨ba, bR⟩ : ∃ y_ : List (S25), y_ = (([] : List (S25))) := ⟨_, rfl⟩; replace H : ((spec_l1Below.f s0_0 s0_1 s0_2 4).bind fun bb => (if bb.1 = 0 then ((some (([(⟨1, 1, 0, 0, 3⟩ : S25), (⟨5, 2, 0, 1, 0⟩ : S25), (⟨11, 0, 0, 2, 1⟩ : S25), (⟨10, 3, 0, 0, 1⟩ : S25)] : List (S25)) : List (S25))).bind fun bk => (if ba.length + bk.length < 3518437208883 then (spec_l6DrawCode.j0 k (ba ++ bk) s0_0 bb.2.1 bb.2.2) else (none))) else (if bb.1 = 1 then ((some (([(⟨1, 1, 0, 0, 2⟩ : S25), (⟨6, 4, 0, 1, 0⟩ : S25), (⟨7, 2, 0, 4, 0⟩ : S25), (⟨8, 3, 2, 4, 0⟩ : S25)] : List (S25)) : List (S25))).bind fun bl => (if ba.length + bl.length < 3518437208883 then (spec_l6DrawCode.j0 k (ba ++ bl) s0_0 bb.2.1 bb.2.2) else (none))) else (if bb.1 = 2 then ((some (([(⟨1, 1, 0, 0, 5⟩ : S25), (⟨1, 2, 0, 0, (-1)⟩ : S25), (⟨2, 1, 1, 2, 0⟩ : S25), (⟨13, 0, 1, 0, 2⟩ : S25), (⟨13, 0, 5, 0, (-2)⟩ : S25)] : List (S25)) : List (S25))).bind fun bm => (if ba.length + bm.length < 3518437208883 then (spec_l6DrawCode.j0 k (ba ++ bm) s0_0 bb.2.1 bb.2.2) else (none))) else (spec_l6DrawCode.j0 k ba s0_0 bb.2.1 bb.2.2))))) = some (r1, r2, r3) := by first | (rw [bR]; with_reducible exact H) | (have H2_ := (Option.bind_some _ _).symm.trans H; rw [bR]; with_reducible exact H2_) | (have H2_ := (Option.bind_some _ _).symm.trans H; with_reducible exact H2_) | with_reducible exact H | (rw [bR]; exact H) | exact H
 have dr := Aside0.mk bR; clear bR; replace H := Option.bind_eq_some_iff.mp H; obtain ⟨⟨bj, bp, bq⟩, A20, H⟩ := H; replace H : (if bj = 0 then ((some (([(⟨1, 1, 0, 0, 3⟩ : S25), (⟨5, 2, 0, 1, 0⟩ : S25), (⟨11, 0, 0, 2, 1⟩ : S25), (⟨10, 3, 0, 0, 1⟩ : S25)] : List (S25)) : List (S25))).bind fun bk => (if ba.length + bk.length < 3518437208883 then (spec_l6DrawCode.j0 k (ba ++ bk) s0_0 bp bq) else (none))) else (if bj = 1 then ((some (([(⟨1, 1, 0, 0, 2⟩ : S25), (⟨6, 4, 0, 1, 0⟩ : S25), (⟨7, 2, 0, 4, 0⟩ : S25), (⟨8, 3, 2, 4, 0⟩ : S25)] : List (S25)) : List (S25))).bind fun bl => (if ba.length + bl.length < 3518437208883 then (spec_l6DrawCode.j0 k (ba ++ bl) s0_0 bp bq) else (none))) else (if bj = 2 then ((some (([(⟨1, 1, 0, 0, 5⟩ : S25), (⟨1, 2, 0, 0, (-1)⟩ : S25), (⟨2, 1, 1, 2, 0⟩ : S25), (⟨13, 0, 1, 0, 2⟩ : S25), (⟨13, 0, 5, 0, (-2)⟩ : S25)] : List (S25)) : List (S25))).bind fun bm => (if ba.length + bm.length < 3518437208883 then (spec_l6DrawCode.j0 k (ba ++ bm) s0_0 bp bq) else (none))) else (spec_l6DrawCode.j0 k ba s0_0 bp bq)))) = some (r1, r2, r3) := H; have A2 := Aside0.mk A20; clear A20; have de := Aside0.mk H; clear H
 go_enter Try.func77, Try.ntmps77
 go_upto_block 0 with (first | ((with_reducible refine gate_dst (N := 6) rfl ?_); refine Kd.R_lit k25 _ 25 ?hg (N := 6) ?hd (xs := ([] : List (S25))) (inner := []) (ok := fun _ => True) (okp := fun _ => True) ?hr ?hp (fun _ hk => hk) trivial (Below.refl _ _) (Nat.le_refl _) (by simp) ?_; (case hd => rfl); (case hg => rfl); (case hr => first | (go_simp; done) | (go_simp; rfl)); (case hp => exact (Reps.none _ _)); intro df w4 bS hb hg_ hnew_; clear hg_ hnew_; (first | rw [← dr.out] at bS | (simp only [Int.reduceToNat] at bS; rw [← dr.out] at bS)); have bd := Aside0.mk (Kd.R_lower bS (keep_size (w := w) (g := g) (row := none) (nK HK))); have bf := Aside0.mk (IsS69.below (IsS69.n) hb); have bg := Aside0.mk (KeepBut.trans (nK HK) (KeepBut.of_below hb g none) (.inl rfl)); have bh := Aside0.mk (below_step (IsS69.nb) hb); clear HI0 HK HB; have bc := bd; have HI0 := bf; have HK := bg; have HB := bh; clear bd bf bg bh; clear hb bS) | ((with_reducible refine gate_callee (f := 16) rfl ?_); refine goesM (some 8) rfl rfl Try.func16 (by kernel_rfl) rfl #[.pointer (some ⟨g, 0, none⟩), .int .i64 4] rfl ?_; (with_reducible refine (spec_l1Below.calls g s0_0 s0_1 s0_2 4 bj bp bq w0 _ ?side1 ?side2 A2.out).mono ?_); (case side1 => exact IsS69.n); (case side2 => exact IsS69.nb); rintro e w6 ⟨rfl, hi, hb, hk⟩; refine ⟨_, rfl, ?_⟩; replace bc := Aside0.mk (Kd.R_mono (Kd.R_keep (IsS69.apart (show IsS69 w0 _ g s0_0 s0_1 s0_2 from IsS69.n) (nRo bc) (by decide)) hk (fun _ h => h.2)) (fun _ h => h.1)); replace HK := Aside0.mk (KeepBut.trans (nK HK) hk (.inl rfl)); replace HB := Aside0.mk (hb); replace HI0 := Aside0.mk (hi); (try clear hb)))
 (try simp only [Act.put, List.setIfInBounds_toArray, List.set_cons_zero, List.set_cons_succ])
 go_cut [3] (fun v3 wc => ∃ (kq : Nat) (bn : List (S25)), Aside0 (spec_l6DrawCode.j0 kq bn s0_0 bp bq = some (r1, r2, r3)) ∧ Aside0 (kq ≤ k) ∧ Aside0 (Kd.R k25 25 wc w.heap.size (fun _ => True) v3 bn) ∧ Aside0 (IsS69 w0 wc g s0_0 bp bq) ∧ Aside0 (KeepBut w wc g none) ∧ Aside0 (Below w0.heap.size w0 wc))
 case first =>
  have H := de.out; clear de
  by_cases c7 : bj = 0
  ·rw [if_pos c7] at H
   have c7b0 : (bj == 0) = true := beq_iff_eq.mpr c7; have c7b1 : (bj != 0) = false := bne_eq_false_iff_eq.mpr c7; clear c7; (first | rw [c7b0] | (simp only [i64_w, i32_w]; rw [c7b0]) | skip); obtain ⟨bk, bT⟩ : ∃ y_ : List (S25), y_ = (([(⟨1, 1, 0, 0, 3⟩ : S25), (⟨5, 2, 0, 1, 0⟩ : S25), (⟨11, 0, 0, 2, 1⟩ : S25), (⟨10, 3, 0, 0, 1⟩ : S25)] : List (S25))) := ⟨_, rfl⟩; replace H : (if ba.length + bk.length < 3518437208883 then (spec_l6DrawCode.j0 k (ba ++ bk) s0_0 bp bq) else (none)) = some (r1, r2, r3) := by first | (rw [bT]; with_reducible exact H) | (have H2_ := (Option.bind_some _ _).symm.trans H; rw [bT]; with_reducible exact H2_) | (have H2_ := (Option.bind_some _ _).symm.trans H; with_reducible exact H2_) | with_reducible exact H | (rw [bT]; exact H) | exact H
   have dt := Aside0.mk bT; clear bT
   by_cases c8 : ba.length + bk.length < 3518437208883
   ·rw [if_pos c8] at H
    have dD := Aside0.mk c8; clear c8; obtain ⟨du, bU⟩ : ∃ y_ : List (S25), y_ = (ba ++ bk) := ⟨_, rfl⟩; replace H : (spec_l6DrawCode.j0 k du s0_0 bp bq) = some (r1, r2, r3) := by first | (rw [bU]; with_reducible exact H) | (have H2_ := (Option.bind_some _ _).symm.trans H; rw [bU]; with_reducible exact H2_) | (have H2_ := (Option.bind_some _ _).symm.trans H; with_reducible exact H2_) | with_reducible exact H | (rw [bU]; exact H) | exact H
    have dE := Aside0.mk bU; clear bU; have H' := Aside0.mk H; clear H
    go_wp2_with (first | ((with_reducible refine gate_dst (N := 16) rfl ?_); refine Kd.R_lit k25 _ 25 ?hg (N := 16) ?hd (xs := ([(⟨1, 1, 0, 0, 3⟩ : S25), (⟨5, 2, 0, 1, 0⟩ : S25), (⟨11, 0, 0, 2, 1⟩ : S25), (⟨10, 3, 0, 0, 1⟩ : S25)] : List (S25))) (inner := [.int .i64 1, .int .i64 1, .int .i64 0, .int .i64 0, .int .i64 3, .int .i64 5, .int .i64 2, .int .i64 0, .int .i64 1, .int .i64 0, .int .i64 11, .int .i64 0, .int .i64 0, .int .i64 2, .int .i64 1, .int .i64 10, .int .i64 3, .int .i64 0, .int .i64 0, .int .i64 1]) (ok := fun _ => True) (okp := fun _ => True) ?hr ?hp (fun _ hk => hk) trivial (Below.refl _ _) (Nat.le_refl _) (by simp) ?_; (case hd => rfl); (case hg => rfl); (case hr => first | (go_simp; done) | (go_simp; rfl)); (case hp => exact (Reps.c5 (show Kd.M k25 _ _ _ (⟨1, 1, 0, 0, 3⟩ : S25) [.int .i64 1, .int .i64 1, .int .i64 0, .int .i64 0, .int .i64 3] from (k25_mkM _ _ _ (⟨1, 1, 0, 0, 3⟩ : S25) )) (Reps.c5 (show Kd.M k25 _ _ _ (⟨5, 2, 0, 1, 0⟩ : S25) [.int .i64 5, .int .i64 2, .int .i64 0, .int .i64 1, .int .i64 0] from (k25_mkM _ _ _ (⟨5, 2, 0, 1, 0⟩ : S25) )) (Reps.c5 (show Kd.M k25 _ _ _ (⟨11, 0, 0, 2, 1⟩ : S25) [.int .i64 11, .int .i64 0, .int .i64 0, .int .i64 2, .int .i64 1] from (k25_mkM _ _ _ (⟨11, 0, 0, 2, 1⟩ : S25) )) (Reps.c5 (show Kd.M k25 _ _ _ (⟨10, 3, 0, 0, 1⟩ : S25) [.int .i64 10, .int .i64 3, .int .i64 0, .int .i64 0, .int .i64 1] from (k25_mkM _ _ _ (⟨10, 3, 0, 0, 1⟩ : S25) )) (Reps.none _ _)))))); intro d1 w9 bC hb hg_ hnew_; clear hg_ hnew_; (first | rw [← dt.out] at bC | (simp only [Int.reduceToNat] at bC; rw [← dt.out] at bC)); have bd := Aside0.mk (Kd.R_elder' (nRo bc) (Kd.R_base bC) hb); have bf := Aside0.mk (Kd.R_lower (Kd.R_new' bC (Kd.R_lt (nRo bc))) (keep_size (w := w) (g := g) (row := none) (nK HK))); have bg := Aside0.mk (IsS69.below (IsS69.n) hb); have bh := Aside0.mk (KeepBut.trans (nK HK) (KeepBut.of_below hb g none) (.inl rfl)); have bo := Aside0.mk (below_step (IsS69.nb) hb); clear bc HI0 HK HB; have bc := bd; have bD := bf; have HI0 := bg; have HK := bh; have HB := bo; clear bd bf bg bh bo; clear hb bC; obtain ⟨dg, dh, b8⟩ := Kd.R_slice bD.out; subst b8) | ((with_reducible refine gate_builtin (b := .append) (xs := #[.tmp 11, .tmp 16]) rfl ?_); at_builtin; refine Kd.R_append_rows k25 w.heap.size rfl (.tmp 11) (.tmp 16) 35 25 (.agg #[(.int .i64 0), (.int .i64 0), (.int .i64 0), (.int .i64 0), (.int .i64 0)]) 40 rfl Try.underlying35 info25 rfl (by decide) (by omega) df ba bk _ _ _ (fun k_ => some k_ ≠ (.slice dg bk.length dh : Value).ownBlock) (fun _ => False) rfl rfl ?aO ?aR (fun _ _ h => h) (fun _ h => h.elim) ?aF (Below.refl _ _) ?aS ?aL ?_; (case aR => repeat (first | exact (Kd.R_reads' bD.out).2.2 | (with_reducible refine Kd.C_alloc ?_ _) | (with_reducible refine Kd.C_drewN ?_ _) | (with_reducible refine Kd.C_drew ?_))); (case aF => exact (fun k_ hk => Kd.fresh' (Kd.R_lt (nRo bD)) k_ hk)); (case aO => exact (by (with_reducible repeat (first | apply Kd.R_alloc | apply Kd.R_drewN | apply Kd.R_drew)); exact Kd.R_mono bc.out (fun _ hk => hk.2))); (case aS => exact (keep_size (w := w) (g := g) (row := none) (nK HK))); (case aL => have := dD.out; omega); intro d2 bA ho hb hg hat; rw [← dE.out] at ho; have bd := Aside0.mk (IsS69.grown (IsS69.n) hg (IsS69.own_ne HI0.out bc.out (by decide))); have bf := Aside0.mk (Kd.R_after (ok := (fun _ => True)) (nRo bD) hg hat); have bg := Aside0.mk (below_weaken (IsS69.nb) HL.out hb); have bh := Aside0.mk (KeepBut.trans (nK HK) (KeepBut.of_grown hg g) (Kd.R_base2 bc.out)); have bo := Aside0.mk (ho); clear HI0 bD HB HK bc; have HI0 := bd; have bD := bf; have HB := bg; have HK := bh; have dF := bo; clear bd bf bg bh bo; clear ho hb hg hat))
    go_meet
    case rel => exact ⟨_, (du), H', ⟨by first | omega | exact Nat.le_refl _⟩, ⟨by (with_reducible repeat (first | apply Kd.R_alloc | apply Kd.R_drewN | apply Kd.R_drew)); exact Kd.R_mono dF.out (fun _ hk => trivial)⟩, ⟨IsS69.n⟩, ⟨nK HK⟩, ⟨IsS69.nb⟩⟩
   ·rw [if_neg c8] at H
    exact absurd H (by simp)
  ·rw [if_neg c7] at H
   have c7b0 : (bj == 0) = false := beq_eq_false_iff_ne.mpr c7; have c7b1 : (bj != 0) = true := bne_iff_ne.mpr c7; (first | rw [c7b0] | (simp only [i64_w, i32_w]; rw [c7b0]) | skip)
   by_cases c13 : bj = 1
   ·rw [if_pos c13] at H
    have c13b0 : (bj == 1) = true := beq_iff_eq.mpr c13; have c13b1 : (bj != 1) = false := bne_eq_false_iff_eq.mpr c13; clear c13; obtain ⟨bl, bV⟩ : ∃ y_ : List (S25), y_ = (([(⟨1, 1, 0, 0, 2⟩ : S25), (⟨6, 4, 0, 1, 0⟩ : S25), (⟨7, 2, 0, 4, 0⟩ : S25), (⟨8, 3, 2, 4, 0⟩ : S25)] : List (S25))) := ⟨_, rfl⟩; replace H : (if ba.length + bl.length < 3518437208883 then (spec_l6DrawCode.j0 k (ba ++ bl) s0_0 bp bq) else (none)) = some (r1, r2, r3) := by first | (rw [bV]; with_reducible exact H) | (have H2_ := (Option.bind_some _ _).symm.trans H; rw [bV]; with_reducible exact H2_) | (have H2_ := (Option.bind_some _ _).symm.trans H; with_reducible exact H2_) | with_reducible exact H | (rw [bV]; exact H) | exact H
    have dv := Aside0.mk bV; clear bV
    by_cases c14 : ba.length + bl.length < 3518437208883
    ·rw [if_pos c14] at H
     have dG := Aside0.mk c14; clear c14; obtain ⟨dw, bW⟩ : ∃ y_ : List (S25), y_ = (ba ++ bl) := ⟨_, rfl⟩; replace H : (spec_l6DrawCode.j0 k dw s0_0 bp bq) = some (r1, r2, r3) := by first | (rw [bW]; with_reducible exact H) | (have H2_ := (Option.bind_some _ _).symm.trans H; rw [bW]; with_reducible exact H2_) | (have H2_ := (Option.bind_some _ _).symm.trans H; with_reducible exact H2_) | with_reducible exact H | (rw [bW]; exact H) | exact H
     have dH := Aside0.mk bW; clear bW; have H' := Aside0.mk H; clear H
     go_wp2_with (first | ((with_reducible refine gate_dst (N := 25) rfl ?_); refine Kd.R_lit k25 _ 25 ?hg (N := 25) ?hd (xs := ([(⟨1, 1, 0, 0, 2⟩ : S25), (⟨6, 4, 0, 1, 0⟩ : S25), (⟨7, 2, 0, 4, 0⟩ : S25), (⟨8, 3, 2, 4, 0⟩ : S25)] : List (S25))) (inner := [.int .i64 1, .int .i64 1, .int .i64 0, .int .i64 0, .int .i64 2, .int .i64 6, .int .i64 4, .int .i64 0, .int .i64 1, .int .i64 0, .int .i64 7, .int .i64 2, .int .i64 0, .int .i64 4, .int .i64 0, .int .i64 8, .int .i64 3, .int .i64 2, .int .i64 4, .int .i64 0]) (ok := fun _ => True) (okp := fun _ => True) ?hr ?hp (fun _ hk => hk) trivial (Below.refl _ _) (Nat.le_refl _) (by simp) ?_; (case hd => rfl); (case hg => rfl); (case hr => first | (go_simp; done) | (go_simp; rfl)); (case hp => exact (Reps.c5 (show Kd.M k25 _ _ _ (⟨1, 1, 0, 0, 2⟩ : S25) [.int .i64 1, .int .i64 1, .int .i64 0, .int .i64 0, .int .i64 2] from (k25_mkM _ _ _ (⟨1, 1, 0, 0, 2⟩ : S25) )) (Reps.c5 (show Kd.M k25 _ _ _ (⟨6, 4, 0, 1, 0⟩ : S25) [.int .i64 6, .int .i64 4, .int .i64 0, .int .i64 1, .int .i64 0] from (k25_mkM _ _ _ (⟨6, 4, 0, 1, 0⟩ : S25) )) (Reps.c5 (show Kd.M k25 _ _ _ (⟨7, 2, 0, 4, 0⟩ : S25) [.int .i64 7, .int .i64 2, .int .i64 0, .int .i64 4, .int .i64 0] from (k25_mkM _ _ _ (⟨7, 2, 0, 4, 0⟩ : S25) )) (Reps.c5 (show Kd.M k25 _ _ _ (⟨8, 3, 2, 4, 0⟩ : S25) [.int .i64 8, .int .i64 3, .int .i64 2, .int .i64 4, .int .i64 0] from (k25_mkM _ _ _ (⟨8, 3, 2, 4, 0⟩ : S25) )) (Reps.none _ _)))))); intro d3 d4 bE hb hg_ hnew_; clear hg_ hnew_; (first | rw [← dv.out] at bE | (simp only [Int.reduceToNat] at bE; rw [← dv.out] at bE)); have bd := Aside0.mk (Kd.R_elder' (nRo bc) (Kd.R_base bE) hb); have bf := Aside0.mk (Kd.R_lower (Kd.R_new' bE (Kd.R_lt (nRo bc))) (keep_size (w := w) (g := g) (row := none) (nK HK))); have bg := Aside0.mk (IsS69.below (IsS69.n) hb); have bh := Aside0.mk (KeepBut.trans (nK HK) (KeepBut.of_below hb g none) (.inl rfl)); have bo := Aside0.mk (below_step (IsS69.nb) hb); clear bc HI0 HK HB; have bc := bd; have bF := bf; have HI0 := bg; have HK := bh; have HB := bo; clear bd bf bg bh bo; clear hb bE; obtain ⟨dI, dJ, dK⟩ := Kd.R_slice bF.out; subst dK) | ((with_reducible refine gate_builtin (b := .append) (xs := #[.tmp 20, .tmp 25]) rfl ?_); at_builtin; refine Kd.R_append_rows k25 w.heap.size rfl (.tmp 20) (.tmp 25) 35 25 (.agg #[(.int .i64 0), (.int .i64 0), (.int .i64 0), (.int .i64 0), (.int .i64 0)]) 40 rfl Try.underlying35 info25 rfl (by decide) (by omega) df ba bl _ _ _ (fun k_ => some k_ ≠ (.slice dI bl.length dJ : Value).ownBlock) (fun _ => False) rfl rfl ?aO ?aR (fun _ _ h => h) (fun _ h => h.elim) ?aF (Below.refl _ _) ?aS ?aL ?_; (case aR => repeat (first | exact (Kd.R_reads' bF.out).2.2 | (with_reducible refine Kd.C_alloc ?_ _) | (with_reducible refine Kd.C_drewN ?_ _) | (with_reducible refine Kd.C_drew ?_))); (case aF => exact (fun k_ hk => Kd.fresh' (Kd.R_lt (nRo bF)) k_ hk)); (case aO => exact (by (with_reducible repeat (first | apply Kd.R_alloc | apply Kd.R_drewN | apply Kd.R_drew)); exact Kd.R_mono bc.out (fun _ hk => hk.2))); (case aS => exact (keep_size (w := w) (g := g) (row := none) (nK HK))); (case aL => have := dG.out; omega); intro d5 d6 ho hb hg hat; rw [← dH.out] at ho; have bd := Aside0.mk (IsS69.grown (IsS69.n) hg (IsS69.own_ne HI0.out bc.out (by decide))); have bf := Aside0.mk (Kd.R_after (ok := (fun _ => True)) (nRo bF) hg hat); have bg := Aside0.mk (below_weaken (IsS69.nb) HL.out hb); have bh := Aside0.mk (KeepBut.trans (nK HK) (KeepBut.of_grown hg g) (Kd.R_base2 bc.out)); have bo := Aside0.mk (ho); clear HI0 bF HB HK bc; have HI0 := bd; have bF := bf; have HB := bg; have HK := bh; have dL := bo; clear bd bf bg bh bo; clear ho hb hg hat))
     go_meet
     case rel => exact ⟨_, (dw), H', ⟨by first | omega | exact Nat.le_refl _⟩, ⟨by (with_reducible repeat (first | apply Kd.R_alloc | apply Kd.R_drewN | apply Kd.R_drew)); exact Kd.R_mono dL.out (fun _ hk => trivial)⟩, ⟨IsS69.n⟩, ⟨nK HK⟩, ⟨IsS69.nb⟩⟩
    ·rw [if_neg c14] at H
     exact absurd H (by simp)
   ·rw [if_neg c13] at H
    have c13b0 : (bj == 1) = false := beq_eq_false_iff_ne.mpr c13; have c13b1 : (bj != 1) = true := bne_iff_ne.mpr c13
    by_cases c19 : bj = 2
    ·rw [if_pos c19] at H
     have c19b0 : (bj == 2) = true := beq_iff_eq.mpr c19; have c19b1 : (bj != 2) = false := bne_eq_false_iff_eq.mpr c19; clear c19; obtain ⟨bm, bX⟩ : ∃ y_ : List (S25), y_ = (([(⟨1, 1, 0, 0, 5⟩ : S25), (⟨1, 2, 0, 0, (-1)⟩ : S25), (⟨2, 1, 1, 2, 0⟩ : S25), (⟨13, 0, 1, 0, 2⟩ : S25), (⟨13, 0, 5, 0, (-2)⟩ : S25)] : List (S25))) := ⟨_, rfl⟩; replace H : (if ba.length + bm.length < 3518437208883 then (spec_l6DrawCode.j0 k (ba ++ bm) s0_0 bp bq) else (none)) = some (r1, r2, r3) := by first | (rw [bX]; with_reducible exact H) | (have H2_ := (Option.bind_some _ _).symm.trans H; rw [bX]; with_reducible exact H2_) | (have H2_ := (Option.bind_some _ _).symm.trans H; with_reducible exact H2_) | with_reducible exact H | (rw [bX]; exact H) | exact H
     have dx := Aside0.mk bX; clear bX
     by_cases c20 : ba.length + bm.length < 3518437208883
     ·rw [if_pos c20] at H
      have dM := Aside0.mk c20; clear c20; obtain ⟨dy, bY⟩ : ∃ y_ : List (S25), y_ = (ba ++ bm) := ⟨_, rfl⟩; replace H : (spec_l6DrawCode.j0 k dy s0_0 bp bq) = some (r1, r2, r3) := by first | (rw [bY]; with_reducible exact H) | (have H2_ := (Option.bind_some _ _).symm.trans H; rw [bY]; with_reducible exact H2_) | (have H2_ := (Option.bind_some _ _).symm.trans H; with_reducible exact H2_) | with_reducible exact H | (rw [bY]; exact H) | exact H
      have dN := Aside0.mk bY; clear bY; have H' := Aside0.mk H; clear H
      go_wp2_with (first | ((with_reducible refine gate_dst (N := 35) rfl ?_); refine Kd.R_lit k25 _ 25 ?hg (N := 35) ?hd (xs := ([(⟨1, 1, 0, 0, 5⟩ : S25), (⟨1, 2, 0, 0, (-1)⟩ : S25), (⟨2, 1, 1, 2, 0⟩ : S25), (⟨13, 0, 1, 0, 2⟩ : S25), (⟨13, 0, 5, 0, (-2)⟩ : S25)] : List (S25))) (inner := [.int .i64 1, .int .i64 1, .int .i64 0, .int .i64 0, .int .i64 5, .int .i64 1, .int .i64 2, .int .i64 0, .int .i64 0, .int .i64 (-1), .int .i64 2, .int .i64 1, .int .i64 1, .int .i64 2, .int .i64 0, .int .i64 13, .int .i64 0, .int .i64 1, .int .i64 0, .int .i64 2, .int .i64 13, .int .i64 0, .int .i64 5, .int .i64 0, .int .i64 (-2)]) (ok := fun _ => True) (okp := fun _ => True) ?hr ?hp (fun _ hk => hk) trivial (Below.refl _ _) (Nat.le_refl _) (by simp) ?_; (case hd => rfl); (case hg => rfl); (case hr => first | (go_simp; done) | (go_simp; rfl)); (case hp => exact (Reps.c5 (show Kd.M k25 _ _ _ (⟨1, 1, 0, 0, 5⟩ : S25) [.int .i64 1, .int .i64 1, .int .i64 0, .int .i64 0, .int .i64 5] from (k25_mkM _ _ _ (⟨1, 1, 0, 0, 5⟩ : S25) )) (Reps.c5 (show Kd.M k25 _ _ _ (⟨1, 2, 0, 0, (-1)⟩ : S25) [.int .i64 1, .int .i64 2, .int .i64 0, .int .i64 0, .int .i64 (-1)] from (k25_mkM _ _ _ (⟨1, 2, 0, 0, (-1)⟩ : S25) )) (Reps.c5 (show Kd.M k25 _ _ _ (⟨2, 1, 1, 2, 0⟩ : S25) [.int .i64 2, .int .i64 1, .int .i64 1, .int .i64 2, .int .i64 0] from (k25_mkM _ _ _ (⟨2, 1, 1, 2, 0⟩ : S25) )) (Reps.c5 (show Kd.M k25 _ _ _ (⟨13, 0, 1, 0, 2⟩ : S25) [.int .i64 13, .int .i64 0, .int .i64 1, .int .i64 0, .int .i64 2] from (k25_mkM _ _ _ (⟨13, 0, 1, 0, 2⟩ : S25) )) (Reps.c5 (show Kd.M k25 _ _ _ (⟨13, 0, 5, 0, (-2)⟩ : S25) [.int .i64 13, .int .i64 0, .int .i64 5, .int .i64 0, .int .i64 (-2)] from (k25_mkM _ _ _ (⟨13, 0, 5, 0, (-2)⟩ : S25) )) (Reps.none _ _))))))); intro d7 d8 bG hb hg_ hnew_; clear hg_ hnew_; (first | rw [← dx.out] at bG | (simp only [Int.reduceToNat] at bG; rw [← dx.out] at bG)); have bd := Aside0.mk (Kd.R_elder' (nRo bc) (Kd.R_base bG) hb); have bf := Aside0.mk (Kd.R_lower (Kd.R_new' bG (Kd.R_lt (nRo bc))) (keep_size (w := w) (g := g) (row := none) (nK HK))); have bg := Aside0.mk (IsS69.below (IsS69.n) hb); have bh := Aside0.mk (KeepBut.trans (nK HK) (KeepBut.of_below hb g none) (.inl rfl)); have bo := Aside0.mk (below_step (IsS69.nb) hb); clear bc HI0 HK HB; have bc := bd; have bH := bf; have HI0 := bg; have HK := bh; have HB := bo; clear bd bf bg bh bo; clear hb bG; obtain ⟨dO, dP, dQ⟩ := Kd.R_slice bH.out; subst dQ) | ((with_reducible refine gate_builtin (b := .append) (xs := #[.tmp 29, .tmp 35]) rfl ?_); at_builtin; refine Kd.R_append_rows k25 w.heap.size rfl (.tmp 29) (.tmp 35) 35 25 (.agg #[(.int .i64 0), (.int .i64 0), (.int .i64 0), (.int .i64 0), (.int .i64 0)]) 40 rfl Try.underlying35 info25 rfl (by decide) (by omega) df ba bm _ _ _ (fun k_ => some k_ ≠ (.slice dO bm.length dP : Value).ownBlock) (fun _ => False) rfl rfl ?aO ?aR (fun _ _ h => h) (fun _ h => h.elim) ?aF (Below.refl _ _) ?aS ?aL ?_; (case aR => repeat (first | exact (Kd.R_reads' bH.out).2.2 | (with_reducible refine Kd.C_alloc ?_ _) | (with_reducible refine Kd.C_drewN ?_ _) | (with_reducible refine Kd.C_drew ?_))); (case aF => exact (fun k_ hk => Kd.fresh' (Kd.R_lt (nRo bH)) k_ hk)); (case aO => exact (by (with_reducible repeat (first | apply Kd.R_alloc | apply Kd.R_drewN | apply Kd.R_drew)); exact Kd.R_mono bc.out (fun _ hk => hk.2))); (case aS => exact (keep_size (w := w) (g := g) (row := none) (nK HK))); (case aL => have := dM.out; omega); intro d9 ea ho hb hg hat; rw [← dN.out] at ho; have bd := Aside0.mk (IsS69.grown (IsS69.n) hg (IsS69.own_ne HI0.out bc.out (by decide))); have bf := Aside0.mk (Kd.R_after (ok := (fun _ => True)) (nRo bH) hg hat); have bg := Aside0.mk (below_weaken (IsS69.nb) HL.out hb); have bh := Aside0.mk (KeepBut.trans (nK HK) (KeepBut.of_grown hg g) (Kd.R_base2 bc.out)); have bo := Aside0.mk (ho); clear HI0 bH HB HK bc; have HI0 := bd; have bH := bf; have HB := bg; have HK := bh; have dR := bo; clear bd bf bg bh bo; clear ho hb hg hat))
      go_meet
      case rel => exact ⟨_, (dy), H', ⟨by first | omega | exact Nat.le_refl _⟩, ⟨by (with_reducible repeat (first | apply Kd.R_alloc | apply Kd.R_drewN | apply Kd.R_drew)); exact Kd.R_mono dR.out (fun _ hk => trivial)⟩, ⟨IsS69.n⟩, ⟨nK HK⟩, ⟨IsS69.nb⟩⟩
     ·rw [if_neg c20] at H
      exact absurd H (by simp)
    ·rw [if_neg c19] at H
     have c19b0 : (bj == 2) = false := beq_eq_false_iff_ne.mpr c19; have c19b1 : (bj != 2) = true := bne_iff_ne.mpr c19; have H' := Aside0.mk H; clear H; go_wp2
     go_meet
     case rel => exact ⟨_, (ba), H', ⟨by first | omega | exact Nat.le_refl _⟩, ⟨by (with_reducible repeat (first | apply Kd.R_alloc | apply Kd.R_drewN | apply Kd.R_drew)); exact bc.out⟩, ⟨IsS69.n⟩, ⟨nK HK⟩, ⟨IsS69.nb⟩⟩
 case rest =>
  clear de; try clear c1
  try clear c2
  try clear p2
  try clear c5
  try clear c7
  try clear c7b0
  try clear c7b1
  try clear c8
  try clear c13
  try clear c13b0
  try clear c13b1
  try clear c14
  try clear c16
  try clear c19
  try clear c19b0
  try clear c19b1
  try clear c20
  obtain ⟨kq, bn, HA, dz, br, HI0, HK, HB⟩ := hcut
  cases kq with
  | zero => exact absurd HA.out (by simp [spec_l6DrawCode.j0])
  | succ kj2 =>
   have H := HA.out; clear HA; simp only [spec_l6DrawCode.j0] at H; replace H := Option.bind_eq_some_iff.mp H; obtain ⟨⟨bx, di, dj⟩, A250, H⟩ := H; replace H : (spec_l6DrawCode.l0 kj2 bn bx 0 s0_0 di dj) = some (r1, r2, r3) := H; have A25 := Aside0.mk A250; clear A250; have H' := Aside0.mk H; clear H
   go_wp2_with (first | ((with_reducible refine gate_callee (f := 16) rfl ?_); refine goesM (some 38) rfl rfl Try.func16 (by kernel_rfl) rfl #[.pointer (some ⟨g, 0, none⟩), .int .i64 14] rfl ?_; (with_reducible refine (spec_l1Below.calls g s0_0 bp bq 14 bx di dj w0 _ ?side1 ?side2 A25.out).mono ?_); (case side1 => exact IsS69.n); (case side2 => exact IsS69.nb); rintro e eb ⟨rfl, hi, hb, hk⟩; refine ⟨_, rfl, ?_⟩; replace br := Aside0.mk (Kd.R_mono (Kd.R_keep (IsS69.apart (show IsS69 w0 _ g s0_0 bp bq from IsS69.n) (nRo br) (by decide)) hk (fun _ h => h.2)) (fun _ h => h.1)); replace HK := Aside0.mk (KeepBut.trans (nK HK) hk (.inl rfl)); replace HB := Aside0.mk (hb); replace HI0 := Aside0.mk (hi); (try clear hb)))
   go_loopg [3, 5] kj2 (fun kq v3 v5 w' => ∃ (bn : List (S25)) (bw : Int) (bI : Int) (bJ : Int), v5 = .int .i64 bw ∧ Aside0 (spec_l6DrawCode.l0 kq bn bx bw s0_0 bI bJ = some (r1, r2, r3)) ∧ Aside0 (kq ≤ kj2) ∧ Aside0 (Kd.R k25 25 w' w.heap.size (fun _ => True) v3 bn) ∧ Aside0 (IsS69 w0 w' g s0_0 bI bJ) ∧ Aside0 (KeepBut w w' g none) ∧ Aside0 (Below w0.heap.size w0 w'))
   case atStart => exact ⟨(bn), (0), (di), (dj), (by first | rfl | (simp; done) | (simp [*]; done)), H', ⟨Nat.le_refl _⟩, ⟨by (with_reducible repeat (first | apply Kd.R_alloc | apply Kd.R_drewN | apply Kd.R_drew)); exact br.out⟩, ⟨IsS69.n⟩, ⟨nK HK⟩, ⟨IsS69.nb⟩⟩
   case round =>
    clear H'; try clear c1
    try clear c2
    try clear p2
    try clear c5
    try clear c7
    try clear c7b0
    try clear c7b1
    try clear c8
    try clear c13
    try clear c13b0
    try clear c13b1
    try clear c14
    try clear c16
    try clear c19
    try clear c19b0
    try clear c19b1
    try clear c20
    try clear p2
    obtain ⟨bn, bw, bI, bJ, rfl, HA, dA, br, HI0, HK, HB⟩ := hrel
    cases gk with
    | zero => exact absurd HA.out (by simp [spec_l6DrawCode.l0])
    | succ k2 =>
     have H := HA.out; clear HA; simp only [spec_l6DrawCode.l0] at H
     by_cases c27 : bw < bx
     ·rw [if_pos c27] at H
      have c27b0 : decide (bw < bx) = true := decide_eq_true c27; clear c27; replace H := Option.bind_eq_some_iff.mp H; obtain ⟨⟨bK, bL, bM, bN, bO, b9, da⟩, A280, H⟩ := H; replace H : (if bn.length < 3518437208883 then (spec_l6DrawCode.l0 k2 (bn ++ [(⟨bK, bL, bM, bN, bO⟩ : S25)]) bx (wrap64 (bw + 1)) s0_0 b9 da) else (none)) = some (r1, r2, r3) := H; have A28 := Aside0.mk A280; clear A280
      by_cases c29 : bn.length < 3518437208883
      ·rw [if_pos c29] at H
       have dS := Aside0.mk c29; clear c29; obtain ⟨dB, bZ⟩ : ∃ y_ : List (S25), y_ = (bn ++ [(⟨bK, bL, bM, bN, bO⟩ : S25)]) := ⟨_, rfl⟩; replace H : (spec_l6DrawCode.l0 k2 dB bx (wrap64 (bw + 1)) s0_0 b9 da) = some (r1, r2, r3) := by first | (rw [bZ]; with_reducible exact H) | (have H2_ := (Option.bind_some _ _).symm.trans H; rw [bZ]; with_reducible exact H2_) | (have H2_ := (Option.bind_some _ _).symm.trans H; with_reducible exact H2_) | with_reducible exact H | (rw [bZ]; exact H) | exact H
       have dT := Aside0.mk bZ; clear bZ; have H' := Aside0.mk H; clear H
       go_wp2_with (first | ((with_reducible refine gate_callee (f := 38) rfl ?_); refine goesM (some 46) rfl rfl Try.func38 (by kernel_rfl) rfl #[.pointer (some ⟨g, 0, none⟩)] rfl ?_; (with_reducible refine (spec_l6DrawIns.calls k2 g s0_0 bI bJ bK bL bM bN bO b9 da w0 _ ?side1 ?side2 A28.out).mono ?_); (case side1 => exact IsS69.n); (case side2 => exact IsS69.nb); rintro e ec ⟨rfl, hi, hb, hk⟩; refine ⟨_, rfl, ?_⟩; replace br := Aside0.mk (Kd.R_mono (Kd.R_keep (IsS69.apart (show IsS69 w0 _ g s0_0 bI bJ from IsS69.n) (nRo br) (by decide)) hk (fun _ h => h.2)) (fun _ h => h.1)); replace HK := Aside0.mk (KeepBut.trans (nK HK) hk (.inl rfl)); replace HB := Aside0.mk (hb); replace HI0 := Aside0.mk (hi); (try clear hb)) | ((with_reducible refine gate_builtin (b := .append) (xs := #[.tmp 44, .tmp 47]) rfl ?_); at_builtin; refine Kd.R_append k25 w.heap.size rfl (.tmp 44) (.tmp 47) 35 25 (.agg #[(.int .i64 0), (.int .i64 0), (.int .i64 0), (.int .i64 0), (.int .i64 0)]) 40 rfl Try.underlying35 info25 rfl (by decide) (by omega) u3 bn (⟨bK, bL, bM, bN, bO⟩ : S25) [.int .i64 bK, .int .i64 bL, .int .i64 bM, .int .i64 bN, .int .i64 bO] (fun _ => True) (fun _ => False) rfl rfl ?aP (fun _ hk => hk.elim) ?aF ?aO (Below.refl _ _) ?aS ?aL ?_; (case aP => exact k25_mkM _ _ _ (⟨bK, bL, bM, bN, bO⟩ : S25)); (case aF => exact (fun _ _ => trivial)); (case aO => exact (nRo br)); (case aS => exact (keep_size (w := w) (g := g) (row := none) (nK HK))); (case aL => have := dS.out; omega); intro ed ee ho hb hg hat; rw [← dT.out] at ho; have bd := Aside0.mk (IsS69.grown (IsS69.n) hg (IsS69.own_ne HI0.out br.out (by decide))); have bf := Aside0.mk (below_weaken (IsS69.nb) HL.out hb); have bg := Aside0.mk (KeepBut.trans (nK HK) (KeepBut.of_grown hg g) (Kd.R_base2 br.out)); have bh := Aside0.mk (ho); clear HI0 HB HK br; have HI0 := bd; have HB := bf; have HK := bg; have dU := bh; clear bd bf bg bh; clear ho hb hg hat))
       go_roundg k2
       case measure => have := dz.out; have := dA.out; omega
       case rel => exact ⟨(dB), (wrap64 (bw + 1)), (b9), (da), (by first | rfl | (simp; done) | (simp [*]; done)), H', ⟨by have := dz.out; have := dA.out; omega⟩, ⟨by (with_reducible repeat (first | apply Kd.R_alloc | apply Kd.R_drewN | apply Kd.R_drew)); exact dU.out⟩, ⟨IsS69.n⟩, ⟨nK HK⟩, ⟨IsS69.nb⟩⟩
      ·rw [if_neg c29] at H
       exact absurd H (by simp)
     ·rw [if_neg c27] at H
      have c27b0 : decide (bw < bx) = false := decide_eq_false c27; clear c27
      by_cases c32 : bn.length < 3518437208883
      ·rw [if_pos c32] at H
       have dV := Aside0.mk c32; clear c32; obtain ⟨dW, b0⟩ : ∃ y_ : List (S25), y_ = (bn ++ [(⟨15, 0, 0, 0, 0⟩ : S25)]) := ⟨_, rfl⟩; replace H : (some (dW, bI, bJ)) = some (r1, r2, r3) := by first | (rw [b0]; with_reducible exact H) | (have H2_ := (Option.bind_some _ _).symm.trans H; rw [b0]; with_reducible exact H2_) | (have H2_ := (Option.bind_some _ _).symm.trans H; with_reducible exact H2_) | with_reducible exact H | (rw [b0]; exact H) | exact H
       have dX := Aside0.mk b0; clear b0; simp only [Option.some.injEq, Prod.mk.injEq] at H; obtain ⟨rfl, rfl, rfl⟩ := H
       go_wp2_with (first | ((with_reducible refine gate_builtin (b := .append) (xs := #[.tmp 49, .tmp 51]) rfl ?_); at_builtin; refine Kd.R_append k25 w.heap.size rfl (.tmp 49) (.tmp 51) 35 25 (.agg #[(.int .i64 0), (.int .i64 0), (.int .i64 0), (.int .i64 0), (.int .i64 0)]) 40 rfl Try.underlying35 info25 rfl (by decide) (by omega) u3 bn (⟨15, 0, 0, 0, 0⟩ : S25) [.int .i64 15, .int .i64 0, .int .i64 0, .int .i64 0, .int .i64 0] (fun _ => True) (fun _ => False) rfl rfl ?aP (fun _ hk => hk.elim) ?aF ?aO (Below.refl _ _) ?aS ?aL ?_; (case aP => exact k25_mkM _ _ _ (⟨15, 0, 0, 0, 0⟩ : S25)); (case aF => exact (fun _ _ => trivial)); (case aO => exact (nRo br)); (case aS => exact (keep_size (w := w) (g := g) (row := none) (nK HK))); (case aL => have := dV.out; omega); intro ef eg ho hb hg hat; rw [← dX.out] at ho; have bd := Aside0.mk (IsS69.grown (IsS69.n) hg (IsS69.own_ne HI0.out br.out (by decide))); have bf := Aside0.mk (below_weaken (IsS69.nb) HL.out hb); have bg := Aside0.mk (KeepBut.trans (nK HK) (KeepBut.of_grown hg g) (Kd.R_base2 br.out)); have bh := Aside0.mk (ho); clear HI0 HB HK br; have HI0 := bd; have HB := bf; have HK := bg; have dY := bh; clear bd bf bg bh; clear ho hb hg hat))
       go_ret
       exact ⟨_, er_, by (with_reducible repeat (first | apply Kd.R_alloc | apply Kd.R_drewN | apply Kd.R_drew)); exact dY.out, IsS69.n, IsS69.nb, nK HK⟩
      ·rw [if_neg c32] at H
       exact absurd H (by simp)

/-! ### spec_MemoryNew: function 87 -/
def spec_MemoryNew.f  : Option ((List (S29)) × List Bool) := if 24 ≤ 5864062014805 then (if 24 ≤ 281474976710656 then (some ((List.replicate 24 z29), (List.replicate 24 false))) else (none)) else (none)
set_option maxHeartbeats 8000000 in
set_option maxRecDepth 100000 in
theorem spec_MemoryNew.calls  (r1 : List (S29)) (r2 : List Bool) (w : World) (h : spec_MemoryNew.f  = some (r1, r2)) :
  Calls Try.prog 87 #[] w fun e w' => ∃ v0_ v1_ : Value, e = .returned (.agg #[v0_, v1_]) ∧ Kd.R k29 29 w' w.heap.size (fun _ => True) v0_ r1 ∧ Kd.R Kd.bool 4 w' w.heap.size (fun _ => True) v1_ r2 ∧ Below w.heap.size w w' := by
 have hu58 := Try.underlying58; have HB := Aside0.mk (Below.refl w.heap.size w); have H : (if 24 ≤ 5864062014805 then (if 24 ≤ 281474976710656 then (some ((List.replicate 24 z29), (List.replicate 24 false))) else (none)) else (none)) = some (r1, r2) := h; clear h
 by_cases c1 : 24 ≤ 5864062014805
 ·rw [if_pos c1] at H
  have c1b0 := eq_true c1; have c1b1 : decide (24 ≤ 5864062014805) = true := decide_eq_true c1; clear c1; obtain ⟨bB, b1⟩ : ∃ y_ : List (S29), y_ = (List.replicate 24 z29) := ⟨_, rfl⟩; replace H : (if 24 ≤ 281474976710656 then (some (bB, (List.replicate 24 false))) else (none)) = some (r1, r2) := by first | (rw [b1]; with_reducible exact H) | (have H2_ := (Option.bind_some _ _).symm.trans H; rw [b1]; with_reducible exact H2_) | (have H2_ := (Option.bind_some _ _).symm.trans H; with_reducible exact H2_) | with_reducible exact H | (rw [b1]; exact H) | exact H
  have db := Aside0.mk b1; clear b1
  by_cases c2 : 24 ≤ 281474976710656
  ·rw [if_pos c2] at H
   have c2b0 := eq_true c2; have c2b1 : decide (24 ≤ 281474976710656) = true := decide_eq_true c2; clear c2; obtain ⟨bP, b2⟩ : ∃ y_ : List Bool, y_ = (List.replicate 24 false) := ⟨_, rfl⟩; replace H : (some (bB, bP)) = some (r1, r2) := by first | (rw [b2]; with_reducible exact H) | (have H2_ := (Option.bind_some _ _).symm.trans H; rw [b2]; with_reducible exact H2_) | (have H2_ := (Option.bind_some _ _).symm.trans H; with_reducible exact H2_) | with_reducible exact H | (rw [b2]; exact H) | exact H
   have dc := Aside0.mk b2; clear b2; simp only [Option.some.injEq, Prod.mk.injEq] at H; obtain ⟨rfl, rfl⟩ := H
   go_enter Try.func87, Try.ntmps87
   try go_wp2_with (first | ((with_reducible refine gate_dst (N := 0) rfl ?_); refine bxe 0 #[.slice none 0 0, .slice none 0 0] 58 ?_; intro b3 hg w3 hbox hb; have bi := hbox; have eh := nge HB hg; have ei := nge HB hg; replace HB := nbs HB hb; clear hb hbox hg))
   replace bi := Aside0.mk (blk_drew bi.out); replace HB := Aside0.mk (below_drew1 HB.out); refine start_ (n := 4) (S := fun w' => True) (ds := []) #[false, false, false, false] (by kernel_rfl) rfl rfl trivial (fun hHeld => ?_); generalize w3.drew = w4 at bi HB hHeld ⊢; refine join_ (σ := Value × Value) 2 #[true, true, false, false] (fun s_ => [(1, s_.1), (2, s_.2)]) (fun s_ w' => (Kd.R k29 29 w' w.heap.size (fun _ => True) s_.1 bB) ∧ (Kd.R Kd.bool 4 w' w.heap.size (fun _ => True) s_.2 bP) ∧ (w'.heap[b3]? = some (.cells #[.slice none 0 0, .slice none 0 0] 58 (0, 0))) ∧ (Below w.heap.size w w')) ?_ ?_; rotate_left
   ·intro hCont
    refine two_ (i := 0) (j := 1) (Ni := some 1) (Nj := some 2) #[true, false, false, false] #[false, true, false, false] rfl rfl rfl rfl (by kernel_rfl) (by decide) (by decide) (fun K hK => ?_) (fun K hK => ?_)
    ·skip
     refine Kd.R_make_step k29 _ 29 (by rfl) (N := 1) rfl 40 _ _ rfl 24 rfl rfl Try.underlying40 (.agg #[(.int .i64 0), (.bool false), (.int .i64 0), (.int .i64 0), (.int .i64 0), (.int .i64 0)]) 48 info29 rfl (by decide) (by omega) z29 (ok := fun _ => True) (okp := fun _ => True) (k29_mkM _ _ _ z29 ) (fun _ hk => hk) trivial (by omega) (by omega) (Below.refl _ _) (Nat.le_refl _) ?_; intro dk w5 bs hb hg_ hnew_; clear hg_ hnew_; (first | rw [← db.out] at bs | (simp only [Int.reduceToNat] at bs; rw [← db.out] at bs)); have bu := Aside0.mk (Kd.R_lower bs (bsz HB)); replace bi := nblk bi hb; replace HB := nbs HB hb; clear hb bs; refine hK.out _ _ trivial (fun hHeld => ?_); clear hK K; refine norm_ (a' := ?_) ?_ ?_; rotate_left
     ·show Act.put _ (some 1) _ = _
      simp only [Act.put, List.setIfInBounds_toArray, List.set_cons_zero, List.set_cons_succ, i64_w, i32_w]; rfl
     refine one_ (i := 1) (N := some 2) #[true, true, false, false] rfl rfl (by kernel_rfl) (by decide) (fun K hK => ?_); refine Kd.R_make_step Kd.bool _ 4 (by rfl) (N := 2) rfl 56 _ _ rfl 24 rfl rfl Try.underlying56 (.bool false) 1 info4 rfl (by decide) (by omega) false (ok := fun _ => True) (okp := fun _ => True) rfl (fun _ hk => hk) trivial (by omega) (by omega) (Below.refl _ _) (Nat.le_refl _) ?_; intro dl w7 bt hb hg_ hnew_; clear hg_ hnew_; (first | rw [← dc.out] at bt | (simp only [Int.reduceToNat] at bt; rw [← dc.out] at bt)); have bv := Aside0.mk (Kd.R_lower bt (bsz HB)); replace bu := nR bu hb; replace bi := nblk bi hb; replace HB := nbs HB hb; clear hb bt; obtain ⟨dm, dn, b4⟩ := Kd.R_slice bv.out; (first | subst b4 | (injection b4 with f1_ f2_ f3_; have f4_ := f1_.symm; have f5_ := f3_.symm; clear f1_ f2_ f3_; subst f4_; subst f5_)); obtain ⟨dp, dq, b5⟩ := Kd.R_slice bu.out; (first | subst b5 | (injection b5 with f1_ f2_ f3_; have f4_ := f1_.symm; have f5_ := f3_.symm; clear f1_ f2_ f3_; subst f4_; subst f5_)); refine hK.out _ _ trivial (fun hHeld => ?_); clear hK K; refine norm_ (a' := ?_) ?_ ?_; rotate_left
     ·show Act.put _ (some 2) _ = _
      simp only [Act.put, List.setIfInBounds_toArray, List.set_cons_zero, List.set_cons_succ, i64_w, i32_w]; rfl
     exact norm_ (by simp only [putAll, Act.put, List.setIfInBounds_toArray, List.set_cons_zero, List.set_cons_succ]) (hCont (.slice dp bB.length dq, .slice dm bP.length dn) _ ⟨(nRo bu), (nRo bv), (nb bi), (nbe HB)⟩)
    ·skip
     refine Kd.R_make_step Kd.bool _ 4 (by rfl) (N := 2) rfl 56 _ _ rfl 24 rfl rfl Try.underlying56 (.bool false) 1 info4 rfl (by decide) (by omega) false (ok := fun _ => True) (okp := fun _ => True) rfl (fun _ hk => hk) trivial (by omega) (by omega) (Below.refl _ _) (Nat.le_refl _) ?_; intro dl w5 bs hb hg_ hnew_; clear hg_ hnew_; (first | rw [← dc.out] at bs | (simp only [Int.reduceToNat] at bs; rw [← dc.out] at bs)); have bv := Aside0.mk (Kd.R_lower bs (bsz HB)); replace bi := nblk bi hb; replace HB := nbs HB hb; clear hb bs; refine hK.out _ _ trivial (fun hHeld => ?_); clear hK K; refine norm_ (a' := ?_) ?_ ?_; rotate_left
     ·show Act.put _ (some 2) _ = _
      simp only [Act.put, List.setIfInBounds_toArray, List.set_cons_zero, List.set_cons_succ, i64_w, i32_w]; rfl
     refine one_ (i := 0) (N := some 1) #[true, true, false, false] rfl rfl (by kernel_rfl) (by decide) (fun K hK => ?_); refine Kd.R_make_step k29 _ 29 (by rfl) (N := 1) rfl 40 _ _ rfl 24 rfl rfl Try.underlying40 (.agg #[(.int .i64 0), (.bool false), (.int .i64 0), (.int .i64 0), (.int .i64 0), (.int .i64 0)]) 48 info29 rfl (by decide) (by omega) z29 (ok := fun _ => True) (okp := fun _ => True) (k29_mkM _ _ _ z29 ) (fun _ hk => hk) trivial (by omega) (by omega) (Below.refl _ _) (Nat.le_refl _) ?_; intro dk w7 bt hb hg_ hnew_; clear hg_ hnew_; (first | rw [← db.out] at bt | (simp only [Int.reduceToNat] at bt; rw [← db.out] at bt)); have bu := Aside0.mk (Kd.R_lower bt (bsz HB)); replace bv := nR bv hb; replace bi := nblk bi hb; replace HB := nbs HB hb; clear hb bt; obtain ⟨dm, dn, b4⟩ := Kd.R_slice bv.out; (first | subst b4 | (injection b4 with f1_ f2_ f3_; have f4_ := f1_.symm; have f5_ := f3_.symm; clear f1_ f2_ f3_; subst f4_; subst f5_)); obtain ⟨dp, dq, b5⟩ := Kd.R_slice bu.out; (first | subst b5 | (injection b5 with f1_ f2_ f3_; have f4_ := f1_.symm; have f5_ := f3_.symm; clear f1_ f2_ f3_; subst f4_; subst f5_)); refine hK.out _ _ trivial (fun hHeld => ?_); clear hK K; refine norm_ (a' := ?_) ?_ ?_; rotate_left
     ·show Act.put _ (some 1) _ = _
      simp only [Act.put, List.setIfInBounds_toArray, List.set_cons_zero, List.set_cons_succ, i64_w, i32_w]; rfl
     exact norm_ (by simp only [putAll, Act.put, List.setIfInBounds_toArray, List.set_cons_zero, List.set_cons_succ]) (hCont (.slice dp bB.length dq, .slice dm bP.length dn) _ ⟨(nRo bu), (nRo bv), (nb bi), (nbe HB)⟩)
   rintro ⟨dk, dl⟩ bA ⟨h0_, h1_, h2_, h3_⟩; have bu : Aside0 (Kd.R k29 29 bA w.heap.size (fun _ => True) dk bB) := ⟨h0_⟩; have bv : Aside0 (Kd.R Kd.bool 4 bA w.heap.size (fun _ => True) dl bP) := ⟨h1_⟩; replace bi : Aside0 (bA.heap[b3]? = some (.cells #[.slice none 0 0, .slice none 0 0] 58 (0, 0))) := ⟨h2_⟩; replace HB : Aside0 (Below w.heap.size w bA) := ⟨h3_⟩; clear h0_ h1_ h2_ h3_; have hHeld := trivial; obtain ⟨dg, dh, b8⟩ := Kd.R_slice bv.out; (first | subst b8 | (injection b8 with f1_ f2_ f3_; have f4_ := f1_.symm; have f5_ := f3_.symm; clear f1_ f2_ f3_; subst f4_; subst f5_)); obtain ⟨dZ, d0, dC⟩ := Kd.R_slice bu.out; (first | subst dC | (injection dC with f1_ f2_ f3_; have f4_ := f1_.symm; have f5_ := f3_.symm; clear f1_ f2_ f3_; subst f4_; subst f5_)); refine norm_ (a' := ?_) ?_ ?_; rotate_left
   ·simp only [putAll, Act.put, List.setIfInBounds_toArray, List.set_cons_zero, List.set_cons_succ]
    rfl
   refine rPk 2 3 #[true, true, true, false] ?_; refine one_ (i := 3) (N := none) #[true, true, true, true] rfl rfl (by kernel_rfl) (by decide) (fun K hK => ?_); have hs14 : bA.cell? ⟨b3, 0, none⟩ = some (.slice none 0 0) := (blk_cell bi.out 0).trans rfl; have hfs14 := blk_frozen bi.out 0; have hs15 : bA.cell? ⟨b3, 1, none⟩ = some (.slice none 0 0) := (blk_cell bi.out 1).trans rfl; have hfs15 := blk_frozen bi.out 1; refine skip_ (w1 := ?_) (by rfl) rfl ?_ ?_; rotate_left
   ·go_simp
    rfl
   refine hK.out _ _ trivial (fun hHeld => ?_); clear hK K; refine done_ (by kernel_rfl) ?_
   try go_wp2
   refine bodyPost_ret (results_cell_row rfl _ _ b3 58 #[.slice dZ bB.length d0, .slice dg bP.length dh] (0, 0) _ rfl (q2 bi) Try.underlying58 rfl (by kernel_rfl)) rfl ?_; exact ⟨_, _, er_, by (with_reducible repeat (first | apply Kd.R_alloc | apply Kd.R_drewN | apply Kd.R_drew)); exact Kd.R_mono (eR2_ (Kd.R_types bu.out bi.out (by decide))) (fun _ hk => trivial), by (with_reducible repeat (first | apply Kd.R_alloc | apply Kd.R_drewN | apply Kd.R_drew)); exact Kd.R_mono (eR2_ (Kd.R_types bv.out bi.out (by decide))) (fun _ hk => trivial), nbe HB⟩
  ·rw [if_neg c2] at H
   exact absurd H (by simp)
 ·rw [if_neg c1] at H
  exact absurd H (by simp)

end Go.Proofs.Ytpcladboobfkhaa.PFnWork
