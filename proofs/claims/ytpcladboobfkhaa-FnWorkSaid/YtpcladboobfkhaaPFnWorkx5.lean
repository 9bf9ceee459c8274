-- Written by a program of this session (wip/patch.py turns a copy of the kit's print): the functions that the law reaches, and their walks.
import Derived.Test.YtpcladboobfkhaaPFnWorkx0
import Derived.Test.YtpcladboobfkhaaPFnWorkx4
import Derived.Test.YtpcladboobfkhaaCFnWork
import Derived.Test.YtpcladboobfkhaaEFnWork
namespace Go.Proofs.Ytpcladboobfkhaa.PFnWork
open Go.RowKit Go.Proofs.YtpcladboobfkhaaW.PrintWords Go.Proofs.YtpcladboobfkhaaW.PrintLast Go.Proofs.YtpcladboobfkhaaW.PrintMore Go.Proofs.YtpcladboobfkhaaW.Mine
attribute [local go_sem] dsc dhs dha ddr ddrN
attribute [local go_sem] max2_int min2_int max_two min_two max_three min_three max_four min_four   -- for this text's walks alone
set_option linter.unusedVariables false
set_option linter.unusedSimpArgs false

/-! ### spec_l6DrawIns: function 38 -/
mutual
def spec_l6DrawIns.j0 : Nat → Int → Int → Int → Int → List Int → Int → Int → Int → Int → Int → Int → Int → Option (Int × Int × Int × Int × Int × Int × Int)
 | 0, _, _, _, _, _, _, _, _, _, _, _, _ => none
 | k + 1, x4, x5, x6, x8, eh, dq, dr, ds, dt, dA, dL, dM => if (Go.bits .and .i64 x8 2) = 0 then (spec_l6DrawIns.j1 k x5 x6 x8 eh dq dr ds dt dA dL dM) else (spec_l6DrawIns.j1 k x5 x6 x8 eh dq dr ds dt x4 dL dM)
def spec_l6DrawIns.j1 : Nat → Int → Int → Int → List Int → Int → Int → Int → Int → Int → Int → Int → Option (Int × Int × Int × Int × Int × Int × Int)
 | 0, _, _, _, _, _, _, _, _, _, _, _ => none
 | k + 1, x5, x6, x8, eh, dq, dr, ds, dt, dA, dL, dM => if (Go.bits .and .i64 x8 4) = 0 then (if (Go.bits .and .i64 x8 8) = 0 then (some (ds, dt, dA, dL, dM, dq, dr)) else (some (ds, dt, dA, dL, x6, dq, dr))) else (if (Go.bits .and .i64 x8 8) = 0 then (some (ds, dt, dA, x5, dM, dq, dr)) else (some (ds, dt, dA, x5, x6, dq, dr)))
end
def spec_l6DrawIns.f (k : Nat) (s0_0 : List Int) (s0_1 : Int) (s0_2 : Int) : Option (Int × Int × Int × Int × Int × Int × Int) := (spec_l1Below.f s0_0 s0_1 s0_2 4).bind fun du => ((spec_l1Below.f s0_0 du.2.1 du.2.2 4).bind fun bU => ((spec_l1Below.f s0_0 bU.2.1 bU.2.2 4).bind fun bF => ((spec_l1PickInt.f s0_0 bF.2.1 bF.2.2 (([0, 0, 1, 2, 3, (-1), 20] : List Int))).bind fun bu => ((spec_l1PickInt.f s0_0 bu.2.1 bu.2.2 (([1, 1, 1, 2, 3, 4, 5, 5, 6, 6, 7, 8, 9, 10, 10, 10, 11, 11, 11, 12, 13, 13, 14, 15] : List Int))).bind fun bc => ((spec_l6Has.f bc.1).bind fun ba => (if (Go.bits .and .i64 ba 1) = 0 then (spec_l6DrawIns.j0 k bU.1 bF.1 bu.1 ba s0_0 bc.2.1 bc.2.2 bc.1 0 0 0 0) else (spec_l6DrawIns.j0 k bU.1 bF.1 bu.1 ba s0_0 bc.2.1 bc.2.2 bc.1 (wrap64 (1 + du.1)) 0 0 0)))))))
theorem spec_l6DrawIns.mono_l : ∀ k, (∀ y0 y1 y2 y3 y4 y5 y6 y7 y8 y9 dv ei, LeO (spec_l6DrawIns.j0 k y0 y1 y2 y3 y4 y5 y6 y7 y8 y9 dv ei) (spec_l6DrawIns.j0 (k + 1) y0 y1 y2 y3 y4 y5 y6 y7 y8 y9 dv ei)) ∧ (∀ y0 y1 y2 y3 y4 y5 y6 y7 y8 y9 dv, LeO (spec_l6DrawIns.j1 k y0 y1 y2 y3 y4 y5 y6 y7 y8 y9 dv) (spec_l6DrawIns.j1 (k + 1) y0 y1 y2 y3 y4 y5 y6 y7 y8 y9 dv))
 | 0 => ⟨fun _ _ _ _ _ _ _ _ _ _ _ _ r h => by simp [spec_l6DrawIns.j0] at h, fun _ _ _ _ _ _ _ _ _ _ _ r h => by simp [spec_l6DrawIns.j1] at h⟩
 | k + 1 => by
  obtain ⟨ih0, ih1⟩ := spec_l6DrawIns.mono_l k; refine ⟨?_, ?_⟩
  ·intro y0 y1 y2 y3 y4 y5 y6 y7 y8 y9 dv ei
   unfold spec_l6DrawIns.j0
   repeat' first
   | (with_reducible exact ih0 _ _ _ _ _ _ _ _ _ _ _ _)
   | (with_reducible exact ih1 _ _ _ _ _ _ _ _ _ _ _)
   | (with_reducible exact LeO.refl _)
   | (with_reducible exact LeO.none _)
   | (with_reducible refine LeO.ite ?_ ?_)
   | (with_reducible refine LeO.bind ?_ (fun _ => ?_))
   | exact ih0 _ _ _ _ _ _ _ _ _ _ _ _
   | exact ih1 _ _ _ _ _ _ _ _ _ _ _
   | exact LeO.none _
   | refine LeO.ite ?_ ?_
   | refine LeO.bind ?_ (fun _ => ?_)
  ·intro y0 y1 y2 y3 y4 y5 y6 y7 y8 y9 dv
   unfold spec_l6DrawIns.j1
   repeat' first
   | (with_reducible exact ih0 _ _ _ _ _ _ _ _ _ _ _ _)
   | (with_reducible exact ih1 _ _ _ _ _ _ _ _ _ _ _)
   | (with_reducible exact LeO.refl _)
   | (with_reducible exact LeO.none _)
   | (with_reducible refine LeO.ite ?_ ?_)
   | (with_reducible refine LeO.bind ?_ (fun _ => ?_))
   | exact ih0 _ _ _ _ _ _ _ _ _ _ _ _
   | exact ih1 _ _ _ _ _ _ _ _ _ _ _
   | exact LeO.none _
   | refine LeO.ite ?_ ?_
   | refine LeO.bind ?_ (fun _ => ?_)
theorem spec_l6DrawIns.mono : ∀ a0 a1 a2 k, LeO (spec_l6DrawIns.f k a0 a1 a2) (spec_l6DrawIns.f (k + 1) a0 a1 a2) := by
 intro a0 a1 a2 k; obtain ⟨ih0, ih1⟩ := spec_l6DrawIns.mono_l k
 unfold spec_l6DrawIns.f
 repeat' first
   | (with_reducible exact ih0 _ _ _ _ _ _ _ _ _ _ _ _)
   | (with_reducible exact ih1 _ _ _ _ _ _ _ _ _ _ _)
   | (with_reducible exact LeO.refl _)
   | (with_reducible exact LeO.none _)
   | (with_reducible refine LeO.ite ?_ ?_)
   | (with_reducible refine LeO.bind ?_ (fun _ => ?_))
   | exact ih0 _ _ _ _ _ _ _ _ _ _ _ _
   | exact ih1 _ _ _ _ _ _ _ _ _ _ _
   | exact LeO.none _
   | refine LeO.ite ?_ ?_
   | refine LeO.bind ?_ (fun _ => ?_)
set_option maxHeartbeats 8000000 in
set_option maxRecDepth 100000 in
theorem spec_l6DrawIns.calls (k : Nat) (g : Nat) (s0_0 : List Int) (s0_1 : Int) (s0_2 : Int) (r1 : Int) (r2 : Int) (r3 : Int) (r4 : Int) (r5 : Int) (r6 : Int) (r7 : Int) (w0 w : World) (hI : IsS69 w0 w g s0_0 s0_1 s0_2) (hB : Below w0.heap.size w0 w) (h : spec_l6DrawIns.f k s0_0 s0_1 s0_2 = some (r1, r2, r3, r4, r5, r6, r7)) :
  Calls Try.prog 38 #[.pointer (some ⟨g, 0, none⟩)] w fun e w' => e = .returned (.agg #[.int .i64 r1, .int .i64 r2, .int .i64 r3, .int .i64 r4, .int .i64 r5]) ∧ IsS69 w0 w' g s0_0 r6 r7 ∧ Below w0.heap.size w0 w' ∧ KeepBut w w' g none := by
 have hu25 := Try.underlying25; have HI0 := Aside0.mk hI; have HK := Aside0.mk (KeepBut.refl w g none); have HL := Aside0.mk hB.size; clear hI; have HW0 := Aside0.mk hB.size; have HB := Aside0.mk hB; clear hB; have H : ((spec_l1Below.f s0_0 s0_1 s0_2 4).bind fun du => ((spec_l1Below.f s0_0 du.2.1 du.2.2 4).bind fun bU => ((spec_l1Below.f s0_0 bU.2.1 bU.2.2 4).bind fun bF => ((spec_l1PickInt.f s0_0 bF.2.1 bF.2.2 (([0, 0, 1, 2, 3, (-1), 20] : List Int))).bind fun bu => ((spec_l1PickInt.f s0_0 bu.2.1 bu.2.2 (([1, 1, 1, 2, 3, 4, 5, 5, 6, 6, 7, 8, 9, 10, 10, 10, 11, 11, 11, 12, 13, 13, 14, 15] : List Int))).bind fun bc => ((spec_l6Has.f bc.1).bind fun ba => (if (Go.bits .and .i64 ba 1) = 0 then (spec_l6DrawIns.j0 k bU.1 bF.1 bu.1 ba s0_0 bc.2.1 bc.2.2 bc.1 0 0 0 0) else (spec_l6DrawIns.j0 k bU.1 bF.1 bu.1 ba s0_0 bc.2.1 bc.2.2 bc.1 (wrap64 (1 + du.1)) 0 0 0)))))))) = some (r1, r2, r3, r4, r5, r6, r7) := h; clear h; replace H := Option.bind_eq_some_iff.mp H; obtain ⟨⟨dd, ej, ek⟩, A20, H⟩ := H; (try dsimp only at H); have A2 := Aside0.mk A20; clear A20; replace H := Option.bind_eq_some_iff.mp H; obtain ⟨⟨bL, el, em⟩, A30, H⟩ := H; (try dsimp only at H); have A3 := Aside0.mk A30; clear A30; replace H := Option.bind_eq_some_iff.mp H; obtain ⟨⟨bM, dN, dO⟩, A40, H⟩ := H; (try dsimp only at H); have A4 := Aside0.mk A40; clear A40; obtain ⟨en, dP⟩ : ∃ y_ : List Int, y_ = (([0, 0, 1, 2, 3, (-1), 20] : List Int)) := ⟨_, rfl⟩; replace H : ((spec_l1PickInt.f s0_0 dN dO en).bind fun bu => ((spec_l1PickInt.f s0_0 bu.2.1 bu.2.2 (([1, 1, 1, 2, 3, 4, 5, 5, 6, 6, 7, 8, 9, 10, 10, 10, 11, 11, 11, 12, 13, 13, 14, 15] : List Int))).bind fun bc => ((spec_l6Has.f bc.1).bind fun ba => (if (Go.bits .and .i64 ba 1) = 0 then (spec_l6DrawIns.j0 k bL bM bu.1 ba s0_0 bc.2.1 bc.2.2 bc.1 0 0 0 0) else (spec_l6DrawIns.j0 k bL bM bu.1 ba s0_0 bc.2.1 bc.2.2 bc.1 (wrap64 (1 + dd)) 0 0 0))))) = some (r1, r2, r3, r4, r5, r6, r7) := by first | (rw [dP]; with_reducible exact H) | (have H2_ := (Option.bind_some _ _).symm.trans H; rw [dP]; with_reducible exact H2_) | (have H2_ := (Option.bind_some _ _).symm.trans H; with_reducible exact H2_) | with_reducible exact H | (rw [dP]; exact H) | exact H
 have eI := Aside0.mk dP; clear dP; replace H := Option.bind_eq_some_iff.mp H; obtain ⟨⟨b1, dB, dC⟩, A50, H⟩ := H; (try dsimp only at H); have A5 := Aside0.mk A50; clear A50; obtain ⟨eo, dQ⟩ : ∃ y_ : List Int, y_ = (([1, 1, 1, 2, 3, 4, 5, 5, 6, 6, 7, 8, 9, 10, 10, 10, 11, 11, 11, 12, 13, 13, 14, 15] : List Int)) := ⟨_, rfl⟩; replace H : ((spec_l1PickInt.f s0_0 dB dC eo).bind fun bc => ((spec_l6Has.f bc.1).bind fun ba => (if (Go.bits .and .i64 ba 1) = 0 then (spec_l6DrawIns.j0 k bL bM b1 ba s0_0 bc.2.1 bc.2.2 bc.1 0 0 0 0) else (spec_l6DrawIns.j0 k bL bM b1 ba s0_0 bc.2.1 bc.2.2 bc.1 (wrap64 (1 + dd)) 0 0 0)))) = some (r1, r2, r3, r4, r5, r6, r7) := by first | (rw [dQ]; with_reducible exact H) | (have H2_ := (Option.bind_some _ _).symm.trans H; rw [dQ]; with_reducible exact H2_) | (have H2_ := (Option.bind_some _ _).symm.trans H; with_reducible exact H2_) | with_reducible exact H | (rw [dQ]; exact H) | exact H
 have eJ := Aside0.mk dQ; clear dQ; replace H := Option.bind_eq_some_iff.mp H; obtain ⟨⟨bG, b4, b5⟩, A60, H⟩ := H; (try dsimp only at H); have A6 := Aside0.mk A60; clear A60; replace H := Option.bind_eq_some_iff.mp H; obtain ⟨ba, A70, H⟩ := H; (try dsimp only at H); have A7 := Aside0.mk A70; clear A70; have ep := Aside0.mk H; clear H
 go_enter Try.func38, Try.ntmps38
 go_upto_if 28 with (first | ((with_reducible refine gate_dst (N := 2) rfl ?_); refine bxe 2 #[.int .i64 0, .int .i64 0, .int .i64 0, .int .i64 0, .int .i64 0] 25 ?_; intro bP hg w9 hbox hb; have bf := Aside0.mk (IsS69.below (IsS69.n) hb); have bg := Aside0.mk (KeepBut.trans (nK HK) (KeepBut.of_below hb g none) (.inl rfl)); have bh := Aside0.mk (below_step (IsS69.nb) hb); have bi := hbox; have bj := Aside0.mk ((by rw [hg]; exact (keep_size (w := w) (g := g) (row := none) (nK HK)) : w.heap.size ≤ bP)); have bk := Aside0.mk ((Nat.le_trans HW0.out (by rw [hg]; exact (keep_size (w := w) (g := g) (row := none) (nK HK)) : w.heap.size ≤ bP) : w0.heap.size ≤ bP)); have bn := Aside0.mk ((by rw [hg]; exact Nat.ne_of_lt (IsS69.lt (show IsS69 w0 _ g s0_0 s0_1 s0_2 from IsS69.n)) : g ≠ bP)); have bp := Aside0.mk ((by rw [hg]; exact Nat.ne_of_gt (IsS69.lt (show IsS69 w0 _ g s0_0 s0_1 s0_2 from IsS69.n)) : bP ≠ g)); clear HI0 HK HB; have HI0 := bf; have HK := bg; have HB := bh; have bm := bi; have hW := bj; have hX := bk; have d8 := bn; have df := bp; clear bf bg bh bi bj bk bn bp; clear hb hbox hg) | ((with_reducible refine gate_callee (f := 16) rfl ?_); refine goesM (some 10) rfl rfl Try.func16 (by kernel_rfl) rfl #[.pointer (some ⟨g, 0, none⟩), .int .i64 4] rfl ?_; (with_reducible refine (spec_l1Below.calls g s0_0 s0_1 s0_2 4 dd ej ek w0 _ ?side1 ?side2 A2.out).mono ?_); (case side1 => exact IsS69.n); (case side2 => exact IsS69.nb); rintro e gy ⟨rfl, hi, hb, hk⟩; refine ⟨_, rfl, ?_⟩; replace bm := Aside0.mk (KeepBut.blk hk (g' := bP) (o := .cells #[.int .i64 0, .int .i64 0, .int .i64 0, .int .i64 0, .int .i64 0] 25 (0, 0)) (nb bm) df.out (by simp)); replace HK := Aside0.mk (KeepBut.trans (nK HK) hk (.inl rfl)); replace HB := Aside0.mk (hb); replace HI0 := Aside0.mk (hi); (try clear hb)) | ((with_reducible refine gate_callee (f := 16) rfl ?_); refine goesM (some 13) rfl rfl Try.func16 (by kernel_rfl) rfl #[.pointer (some ⟨g, 0, none⟩), .int .i64 4] rfl ?_; (with_reducible refine (spec_l1Below.calls g s0_0 ej ek 4 bL el em w0 _ ?side1 ?side2 A3.out).mono ?_); (case side1 => exact IsS69.n); (case side2 => exact IsS69.nb); rintro e hY ⟨rfl, hi, hb, hk⟩; refine ⟨_, rfl, ?_⟩; replace bm := Aside0.mk (KeepBut.blk hk (g' := bP) (o := .cells #[.int .i64 0, .int .i64 0, .int .i64 0, .int .i64 0, .int .i64 0] 25 (0, 0)) (nb bm) df.out (by simp)); replace HK := Aside0.mk (KeepBut.trans (nK HK) hk (.inl rfl)); replace HB := Aside0.mk (hb); replace HI0 := Aside0.mk (hi); (try clear hb)) | ((with_reducible refine gate_callee (f := 16) rfl ?_); refine goesM (some 15) rfl rfl Try.func16 (by kernel_rfl) rfl #[.pointer (some ⟨g, 0, none⟩), .int .i64 4] rfl ?_; (with_reducible refine (spec_l1Below.calls g s0_0 el em 4 bM dN dO w0 _ ?side1 ?side2 A4.out).mono ?_); (case side1 => exact IsS69.n); (case side2 => exact IsS69.nb); rintro e hZ ⟨rfl, hi, hb, hk⟩; refine ⟨_, rfl, ?_⟩; replace bm := Aside0.mk (KeepBut.blk hk (g' := bP) (o := .cells #[.int .i64 0, .int .i64 0, .int .i64 0, .int .i64 0, .int .i64 0] 25 (0, 0)) (nb bm) df.out (by simp)); replace HK := Aside0.mk (KeepBut.trans (nK HK) hk (.inl rfl)); replace HB := Aside0.mk (hb); replace HI0 := Aside0.mk (hi); (try clear hb)) | ((with_reducible refine gate_dst (N := 17) rfl ?_); refine Kd.R_lit (Kd.int .i64) _ 3 ?hg (N := 17) ?hd (xs := ([0, 0, 1, 2, 3, (-1), 20] : List Int)) (inner := [.int .i64 0, .int .i64 0, .int .i64 1, .int .i64 2, .int .i64 3, .int .i64 (-1), .int .i64 20]) (ok := fun _ => True) (okp := fun _ => True) ?hr ?hp (fun _ hk => hk) trivial (Below.refl _ _) (Nat.le_refl _) (by simp) ?_; (case hd => rfl); (case hg => rfl); (case hr => first | (go_simp; done) | (go_simp; rfl)); (case hp => exact (Reps.one (show Kd.M (Kd.int .i64) _ _ _ 0 [.int .i64 0] from rfl) (Reps.one (show Kd.M (Kd.int .i64) _ _ _ 0 [.int .i64 0] from rfl) (Reps.one (show Kd.M (Kd.int .i64) _ _ _ 1 [.int .i64 1] from rfl) (Reps.one (show Kd.M (Kd.int .i64) _ _ _ 2 [.int .i64 2] from rfl) (Reps.one (show Kd.M (Kd.int .i64) _ _ _ 3 [.int .i64 3] from rfl) (Reps.one (show Kd.M (Kd.int .i64) _ _ _ (-1) [.int .i64 (-1)] from rfl) (Reps.one (show Kd.M (Kd.int .i64) _ _ _ 20 [.int .i64 20] from rfl) (Reps.none _ _))))))))); intro h0 h1 dR hb hg_ hnew_; clear hg_ hnew_; (first | rw [← eI.out] at dR | (simp only [Int.reduceToNat] at dR; rw [← eI.out] at dR)); have bf := Aside0.mk (Kd.R_lower dR (keep_size (w := w) (g := g) (row := none) (nK HK))); have bg := Aside0.mk (IsS69.below (IsS69.n) hb); have bh := nblk bm hb; have bi := Aside0.mk (KeepBut.trans (nK HK) (KeepBut.of_below hb g none) (.inl rfl)); have bj := Aside0.mk (below_step (IsS69.nb) hb); clear HI0 bm HK HB; have bH := bf; have HI0 := bg; have bm := bh; have HK := bi; have HB := bj; clear bf bg bh bi bj; clear hb dR; obtain ⟨gz, gA, gB⟩ := Kd.R_slice bH.out; subst gB) | ((with_reducible refine gate_callee (f := 43) rfl ?_); refine goesM (some 18) rfl rfl Try.func43 (by kernel_rfl) rfl #[.pointer (some ⟨g, 0, none⟩), .slice gz en.length gA] rfl ?_; (with_reducible refine (spec_l1PickInt.calls g s0_0 dN dO _ _ en b1 dB dC w0 _ ?side1 ?side2 ?side3 ?side4 ?side5 A5.out).mono ?_); (case side1 => exact IsS69.n); (case side2 => exact IsS69.nb); (case side3 => repeat (first | exact (Kd.R_reads' bH.out).2.2 | (with_reducible refine Kd.C_alloc ?_ _) | (with_reducible refine Kd.C_drewN ?_ _) | (with_reducible refine Kd.C_drew ?_))); (case side4 => exact (Kd.R_reads' bH.out).2.1); (case side5 => exact far_slice (IsS69.own_ne HI0.out bH.out (by decide))); rintro e gC ⟨rfl, hi, hb, hk⟩; refine ⟨_, rfl, ?_⟩; replace bm := Aside0.mk (KeepBut.blk hk (g' := bP) (o := .cells #[.int .i64 0, .int .i64 0, .int .i64 0, .int .i64 0, .int .i64 0] 25 (0, 0)) (nb bm) df.out (by simp)); replace bH := Aside0.mk (Kd.R_mono (Kd.R_keep (IsS69.apart (show IsS69 w0 _ g s0_0 dN dO from IsS69.n) (nRo bH) (by decide)) hk (fun _ h => h.2)) (fun _ h => h.1)); replace HK := Aside0.mk (KeepBut.trans (nK HK) hk (.inl rfl)); replace HB := Aside0.mk (hb); replace HI0 := Aside0.mk (hi); (try clear hb)) | ((with_reducible refine gate_dst (N := 20) rfl ?_); refine Kd.R_lit (Kd.int .i64) _ 3 ?hg (N := 20) ?hd (xs := ([1, 1, 1, 2, 3, 4, 5, 5, 6, 6, 7, 8, 9, 10, 10, 10, 11, 11, 11, 12, 13, 13, 14, 15] : List Int)) (inner := [.int .i64 1, .int .i64 1, .int .i64 1, .int .i64 2, .int .i64 3, .int .i64 4, .int .i64 5, .int .i64 5, .int .i64 6, .int .i64 6, .int .i64 7, .int .i64 8, .int .i64 9, .int .i64 10, .int .i64 10, .int .i64 10, .int .i64 11, .int .i64 11, .int .i64 11, .int .i64 12, .int .i64 13, .int .i64 13, .int .i64 14, .int .i64 15]) (ok := fun _ => True) (okp := fun _ => True) ?hr ?hp (fun _ hk => hk) trivial (Below.refl _ _) (Nat.le_refl _) (by simp) ?_; (case hd => rfl); (case hg => rfl); (case hr => first | (go_simp; done) | (go_simp; rfl)); (case hp => exact (Reps.one (show Kd.M (Kd.int .i64) _ _ _ 1 [.int .i64 1] from rfl) (Reps.one (show Kd.M (Kd.int .i64) _ _ _ 1 [.int .i64 1] from rfl) (Reps.one (show Kd.M (Kd.int .i64) _ _ _ 1 [.int .i64 1] from rfl) (Reps.one (show Kd.M (Kd.int .i64) _ _ _ 2 [.int .i64 2] from rfl) (Reps.one (show Kd.M (Kd.int .i64) _ _ _ 3 [.int .i64 3] from rfl) (Reps.one (show Kd.M (Kd.int .i64) _ _ _ 4 [.int .i64 4] from rfl) (Reps.one (show Kd.M (Kd.int .i64) _ _ _ 5 [.int .i64 5] from rfl) (Reps.one (show Kd.M (Kd.int .i64) _ _ _ 5 [.int .i64 5] from rfl) (Reps.one (show Kd.M (Kd.int .i64) _ _ _ 6 [.int .i64 6] from rfl) (Reps.one (show Kd.M (Kd.int .i64) _ _ _ 6 [.int .i64 6] from rfl) (Reps.one (show Kd.M (Kd.int .i64) _ _ _ 7 [.int .i64 7] from rfl) (Reps.one (show Kd.M (Kd.int .i64) _ _ _ 8 [.int .i64 8] from rfl) (Reps.one (show Kd.M (Kd.int .i64) _ _ _ 9 [.int .i64 9] from rfl) (Reps.one (show Kd.M (Kd.int .i64) _ _ _ 10 [.int .i64 10] from rfl) (Reps.one (show Kd.M (Kd.int .i64) _ _ _ 10 [.int .i64 10] from rfl) (Reps.one (show Kd.M (Kd.int .i64) _ _ _ 10 [.int .i64 10] from rfl) (Reps.one (show Kd.M (Kd.int .i64) _ _ _ 11 [.int .i64 11] from rfl) (Reps.one (show Kd.M (Kd.int .i64) _ _ _ 11 [.int .i64 11] from rfl) (Reps.one (show Kd.M (Kd.int .i64) _ _ _ 11 [.int .i64 11] from rfl) (Reps.one (show Kd.M (Kd.int .i64) _ _ _ 12 [.int .i64 12] from rfl) (Reps.one (show Kd.M (Kd.int .i64) _ _ _ 13 [.int .i64 13] from rfl) (Reps.one (show Kd.M (Kd.int .i64) _ _ _ 13 [.int .i64 13] from rfl) (Reps.one (show Kd.M (Kd.int .i64) _ _ _ 14 [.int .i64 14] from rfl) (Reps.one (show Kd.M (Kd.int .i64) _ _ _ 15 [.int .i64 15] from rfl) (Reps.none _ _)))))))))))))))))))))))))); intro h2 gD dD hb hg_ hnew_; clear hg_ hnew_; (first | rw [← eJ.out] at dD | (simp only [Int.reduceToNat] at dD; rw [← eJ.out] at dD)); have bf := Aside0.mk (Kd.R_elder' (nRo bH) (Kd.R_base dD) hb); have bg := Aside0.mk (Kd.R_lower (Kd.R_new' dD (Kd.R_lt (nRo bH))) (keep_size (w := w) (g := g) (row := none) (nK HK))); have bh := Aside0.mk (IsS69.below (IsS69.n) hb); have bi := nblk bm hb; have bj := Aside0.mk (KeepBut.trans (nK HK) (KeepBut.of_below hb g none) (.inl rfl)); have bk := Aside0.mk (below_step (IsS69.nb) hb); clear bH HI0 bm HK HB; have bH := bf; have b6 := bg; have HI0 := bh; have bm := bi; have HK := bj; have HB := bk; clear bf bg bh bi bj bk; clear hb dD; obtain ⟨gE, gF, gG⟩ := Kd.R_slice b6.out; subst gG) | ((with_reducible refine gate_callee (f := 43) rfl ?_); refine goesM (some 21) rfl rfl Try.func43 (by kernel_rfl) rfl #[.pointer (some ⟨g, 0, none⟩), .slice gE eo.length gF] rfl ?_; (with_reducible refine (spec_l1PickInt.calls g s0_0 dB dC _ _ eo bG b4 b5 w0 _ ?side1 ?side2 ?side3 ?side4 ?side5 A6.out).mono ?_); (case side1 => exact IsS69.n); (case side2 => exact IsS69.nb); (case side3 => repeat (first | exact (Kd.R_reads' b6.out).2.2 | (with_reducible refine Kd.C_alloc ?_ _) | (with_reducible refine Kd.C_drewN ?_ _) | (with_reducible refine Kd.C_drew ?_))); (case side4 => exact (Kd.R_reads' b6.out).2.1); (case side5 => exact far_slice (IsS69.own_ne HI0.out b6.out (by decide))); rintro e eK ⟨rfl, hi, hb, hk⟩; refine ⟨_, rfl, ?_⟩; replace bm := Aside0.mk (KeepBut.blk hk (g' := bP) (o := .cells #[.int .i64 0, .int .i64 0, .int .i64 0, .int .i64 0, .int .i64 0] 25 (0, 0)) (nb bm) df.out (by simp)); replace bH := Aside0.mk (Kd.R_mono (Kd.R_keep (IsS69.apart (show IsS69 w0 _ g s0_0 dB dC from IsS69.n) (nRo bH) (by decide)) hk (fun _ h => h.2)) (fun _ h => h.1)); replace b6 := Aside0.mk (Kd.R_mono (Kd.R_keep (IsS69.apart (show IsS69 w0 _ g s0_0 dB dC from IsS69.n) (nRo b6) (by decide)) hk (fun _ h => h.2)) (fun _ h => h.1)); replace HK := Aside0.mk (KeepBut.trans (nK HK) hk (.inl rfl)); replace HB := Aside0.mk (hb); replace HI0 := Aside0.mk (hi); (try clear hb)) | ((with_reducible refine gate_dst (N := 7) rfl ?_); refine bxe 7 #[.int .i64 0, .int .i64 0, .int .i64 0, .int .i64 0, .int .i64 0] 25 ?_; intro b2 hg eL hbox hb; have bf := nR bH hb; have bg := nR b6 hb; have bh := Aside0.mk (IsS69.below (IsS69.n) hb); have bi := nblk bm hb; have bj := Aside0.mk (KeepBut.trans (nK HK) (KeepBut.of_below hb g none) (.inl rfl)); have bk := Aside0.mk (below_step (IsS69.nb) hb); have bn := hbox; have bp := Aside0.mk ((by rw [hg]; exact (keep_size (w := w) (g := g) (row := none) (nK HK)) : w.heap.size ≤ b2)); have bz := Aside0.mk ((Nat.le_trans HW0.out (by rw [hg]; exact (keep_size (w := w) (g := g) (row := none) (nK HK)) : w.heap.size ≤ b2) : w0.heap.size ≤ b2)); have bA := nlt bm hg; have bN := ngt bm hg; have eM := Aside0.mk ((by rw [hg]; exact Nat.ne_of_lt (IsS69.lt (show IsS69 w0 _ g s0_0 b4 b5 from IsS69.n)) : g ≠ b2)); have eN := Aside0.mk ((by rw [hg]; exact Nat.ne_of_gt (IsS69.lt (show IsS69 w0 _ g s0_0 b4 b5 from IsS69.n)) : b2 ≠ g)); clear bH b6 HI0 bm HK HB; have bH := bf; have b6 := bg; have HI0 := bh; have bm := bi; have HK := bj; have HB := bk; have bx := bn; have h3 := bp; have h4 := bz; have b7 := bA; have dw := bN; have dx := eM; have dy := eN; clear bf bg bh bi bj bk bn bp bz bA bN eM eN; clear hb hbox hg; have h5 := dw.out; have h6 := b7.out; have h7 := dy.out; have h8 := dx.out; obtain ⟨eO, eP, eQ, eR, eS⟩ := c5e bx; obtain ⟨eT, eU, eV, eW, eX⟩ := z5_ bx) | ((with_reducible refine gate_callee (f := 55) rfl ?_); refine goesM (some 25) rfl rfl Try.func55 (by kernel_rfl) rfl #[.int .i64 bG] rfl ?_; (with_reducible refine (spec_l6Has.calls bG ba _ A7.out).mono ?_); rintro e h9 ⟨rfl, hb⟩; refine ⟨_, rfl, ?_⟩; have bf := Aside0.mk (Kd.R_below (by (with_reducible repeat (first | apply Kd.R_alloc | apply Kd.R_drewN | apply Kd.R_drew)); exact (f5 (Kd.R_types bH.out bx.out (by decide)))) hb); have bg := Aside0.mk (Kd.R_below (by (with_reducible repeat (first | apply Kd.R_alloc | apply Kd.R_drewN | apply Kd.R_drew)); exact (f5 (Kd.R_types b6.out bx.out (by decide)))) hb); have bh := Aside0.mk (IsS69.below (show IsS69 w0 (((((eL.setCell ⟨b2, 0, none⟩ (.int .i64 bG)).setCell ⟨b2, 1, none⟩ (.int .i64 0)).setCell ⟨b2, 2, none⟩ (.int .i64 0)).setCell ⟨b2, 3, none⟩ (.int .i64 0)).setCell ⟨b2, 4, none⟩ (.int .i64 0)) g s0_0 b4 b5 from IsS69.n) hb); have bi := nblk bm hb; have bj := Aside0.mk (blk_below (g := b2) (o := .cells #[.int .i64 bG, .int .i64 0, .int .i64 0, .int .i64 0, .int .i64 0] 25 (0, 0)) (q5 bx) hb); have bk := Aside0.mk (KeepBut.trans (nK HK) (KeepBut.of_below hb g none) (.inl rfl)); have bn := Aside0.mk (below_step (IsS69.nb) hb); clear bH b6 HI0 bm bx HK HB; have bH := bf; have b6 := bg; have HI0 := bh; have bm := bi; have bx := bj; have HK := bk; have HB := bn; clear bf bg bh bi bj bk bn; (try clear hb)))
 (try simp only [Act.put, List.setIfInBounds_toArray, List.set_cons_zero, List.set_cons_succ])
 go_cut [] (fun wc => ∃ (kq : Nat) (dg : Int), Aside0 (spec_l6DrawIns.j0 kq bL bM b1 ba s0_0 b4 b5 bG dg 0 0 0 = some (r1, r2, r3, r4, r5, r6, r7)) ∧ Aside0 (kq ≤ k) ∧ Aside0 (wc.heap[bP]? = some (.cells #[.int .i64 0, .int .i64 0, .int .i64 0, .int .i64 0, .int .i64 0] 25 (0, 0))) ∧ Aside0 (wc.heap[b2]? = some (.cells #[.int .i64 bG, .int .i64 dg, .int .i64 0, .int .i64 0, .int .i64 0] 25 (0, 0))) ∧ Aside0 (IsS69 w0 wc g s0_0 b4 b5) ∧ Aside0 (KeepBut w wc g none) ∧ Aside0 (Below w0.heap.size w0 wc))
 case first =>
  have H := ep.out; clear ep
  by_cases c26 : (Go.bits .and .i64 ba 1) = 0
  ·rw [if_pos c26] at H
   have c26b0 : ((Go.bits .and .i64 ba 1) == 0) = true := beq_iff_eq.mpr c26; have c26b1 : ((Go.bits .and .i64 ba 1) != 0) = false := bne_eq_false_iff_eq.mpr c26; clear c26; (first | rw [c26b0] | (simp only [i64_w, i32_w]; rw [c26b0]) | skip); have H' := Aside0.mk H; clear H; go_wp2
   go_meet
   case rel => exact ⟨_, (0), H', ⟨by first | omega | exact Nat.le_refl _⟩, ⟨nb bm⟩, ⟨nb bx⟩, ⟨IsS69.n⟩, ⟨nK HK⟩, ⟨IsS69.nb⟩⟩
  ·rw [if_neg c26] at H
   have c26b0 : ((Go.bits .and .i64 ba 1) == 0) = false := beq_eq_false_iff_ne.mpr c26; have c26b1 : ((Go.bits .and .i64 ba 1) != 0) = true := bne_iff_ne.mpr c26; (first | rw [c26b0] | (simp only [i64_w, i32_w]; rw [c26b0]) | skip); have H' := Aside0.mk H; clear H; have gH := dw.out; have gI := b7.out; have ia := dy.out; have ib := dx.out; obtain ⟨eY, eZ, e0, e1, e2⟩ := c5e bx; obtain ⟨e3, e4, e5, e6, e7⟩ := z5_ bx; go_wp2
   go_meet
   case rel => exact ⟨_, (wrap64 (1 + dd)), H', ⟨by first | omega | exact Nat.le_refl _⟩, ⟨k1_ b7.out (nb bm)⟩, ⟨qp bx⟩, ⟨IsS69.n⟩, ⟨nK HK⟩, ⟨IsS69.nb⟩⟩
 case rest =>
  clear ep; try clear c1
  try clear c2
  try clear p2
  try clear c3
  try clear c4
  try clear c5
  try clear p6
  try clear c16
  try clear c22
  try clear c23
  try clear c26
  try clear c26b0
  try clear c26b1
  try clear c27
  try clear c28
  try clear eO
  try clear eP
  try clear eQ
  try clear eR
  try clear eS
  try clear eY
  try clear eZ
  try clear e0
  try clear e1
  try clear e2
  try clear eT
  try clear eU
  try clear eV
  try clear eW
  try clear eX
  try clear e3
  try clear e4
  try clear e5
  try clear e6
  try clear e7
  obtain ⟨kq, dg, HA, e8, bm, bx, HI0, HK, HB⟩ := hcut
  cases kq with
  | zero => exact absurd HA.out (by simp [spec_l6DrawIns.j0])
  | succ kj7 =>
   have H := HA.out; clear HA; simp only [spec_l6DrawIns.j0] at H; have er := Aside0.mk H; clear H
   go_upto_if 33 with (fail)
   go_cut [] (fun wc => ∃ (kq : Nat) (dz : Int), Aside0 (spec_l6DrawIns.j1 kq bM b1 ba s0_0 b4 b5 bG dg dz 0 0 = some (r1, r2, r3, r4, r5, r6, r7)) ∧ Aside0 (kq ≤ kj7) ∧ Aside0 (wc.heap[bP]? = some (.cells #[.int .i64 0, .int .i64 0, .int .i64 0, .int .i64 0, .int .i64 0] 25 (0, 0))) ∧ Aside0 (wc.heap[b2]? = some (.cells #[.int .i64 bG, .int .i64 dg, .int .i64 dz, .int .i64 0, .int .i64 0] 25 (0, 0))) ∧ Aside0 (IsS69 w0 wc g s0_0 b4 b5) ∧ Aside0 (KeepBut w wc g none) ∧ Aside0 (Below w0.heap.size w0 wc))
   case first =>
    have H := er.out; clear er
    by_cases c31 : (Go.bits .and .i64 ba 2) = 0
    ·rw [if_pos c31] at H
     have c31b0 : ((Go.bits .and .i64 ba 2) == 0) = true := beq_iff_eq.mpr c31; have c31b1 : ((Go.bits .and .i64 ba 2) != 0) = false := bne_eq_false_iff_eq.mpr c31; clear c31; (first | rw [c31b0] | (simp only [i64_w, i32_w]; rw [c31b0]) | skip); have H' := Aside0.mk H; clear H; go_wp2
     go_meet
     case rel => exact ⟨_, (0), H', ⟨by have := e8.out; first | omega | exact Nat.le_refl _⟩, ⟨nb bm⟩, ⟨nb bx⟩, ⟨IsS69.n⟩, ⟨nK HK⟩, ⟨IsS69.nb⟩⟩
    ·rw [if_neg c31] at H
     have c31b0 : ((Go.bits .and .i64 ba 2) == 0) = false := beq_eq_false_iff_ne.mpr c31; have c31b1 : ((Go.bits .and .i64 ba 2) != 0) = true := bne_iff_ne.mpr c31; (first | rw [c31b0] | (simp only [i64_w, i32_w]; rw [c31b0]) | skip); have H' := Aside0.mk H; clear H; have ic := dw.out; have ig := b7.out; have ih := dy.out; have ii := dx.out; obtain ⟨gJ, gK, gL, gM, gN⟩ := c5e bx; obtain ⟨gO, gP, gQ, gR, gS⟩ := z5_ bx; go_wp2
     go_meet
     case rel => exact ⟨_, (bL), H', ⟨by have := e8.out; first | omega | exact Nat.le_refl _⟩, ⟨k1_ b7.out (nb bm)⟩, ⟨qp bx⟩, ⟨IsS69.n⟩, ⟨nK HK⟩, ⟨IsS69.nb⟩⟩
   case rest =>
    clear er; try clear c1
    try clear c2
    try clear p2
    try clear c3
    try clear c4
    try clear c5
    try clear p6
    try clear c16
    try clear c22
    try clear c23
    try clear c26
    try clear c26b0
    try clear c26b1
    try clear c27
    try clear c28
    try clear c31
    try clear c31b0
    try clear c31b1
    try clear c32
    try clear c33
    try clear eO
    try clear eP
    try clear eQ
    try clear eR
    try clear eS
    try clear eY
    try clear eZ
    try clear e0
    try clear e1
    try clear e2
    try clear gJ
    try clear gK
    try clear gL
    try clear gM
    try clear gN
    try clear eT
    try clear eU
    try clear eV
    try clear eW
    try clear eX
    try clear e3
    try clear e4
    try clear e5
    try clear e6
    try clear e7
    try clear gO
    try clear gP
    try clear gQ
    try clear gR
    try clear gS
    try clear p2
    try clear p6
    obtain ⟨kq, dz, HA, ij, bm, bx, HI0, HK, HB⟩ := hcut
    cases kq with
    | zero => exact absurd HA.out (by simp [spec_l6DrawIns.j1])
    | succ kj29 =>
     have H := HA.out; clear HA; simp only [spec_l6DrawIns.j1] at H
     by_cases c35 : (Go.bits .and .i64 ba 4) = 0
     ·rw [if_pos c35] at H
      have c35b0 : ((Go.bits .and .i64 ba 4) == 0) = true := beq_iff_eq.mpr c35; have c35b1 : ((Go.bits .and .i64 ba 4) != 0) = false := bne_eq_false_iff_eq.mpr c35; clear c35
      by_cases c36 : (Go.bits .and .i64 ba 8) = 0
      ·rw [if_pos c36] at H
       have c36b0 : ((Go.bits .and .i64 ba 8) == 0) = true := beq_iff_eq.mpr c36; have c36b1 : ((Go.bits .and .i64 ba 8) != 0) = false := bne_eq_false_iff_eq.mpr c36; clear c36; simp only [Option.some.injEq, Prod.mk.injEq] at H; obtain ⟨rfl, rfl, rfl, rfl, rfl, rfl, rfl⟩ := H; have ik := dw.out; have il := b7.out; have gT := dy.out; have gU := dx.out; obtain ⟨im, io, ip, iq, ir⟩ := c5e bx; obtain ⟨iu, iv, iw, ix, iy⟩ := z5_ bx; have iz := df.out; have iA := d8.out; obtain ⟨iB, iC, iD, iE, iF⟩ := c5e bm; obtain ⟨iG, iH, iI, iJ, iK⟩ := z5_ bm; go_wp2; refine bodyPost_ret (results_cell_row rfl _ _ bP 25 #[.int .i64 bG, .int .i64 dg, .int .i64 dz, .int .i64 0, .int .i64 0] (0, 0) _ rfl (q5 bm) Try.underlying25 rfl (by kernel_rfl)) rfl ?_; exact ⟨er_, IsS69.n, IsS69.nb, nK HK⟩
      ·rw [if_neg c36] at H
       have c36b0 : ((Go.bits .and .i64 ba 8) == 0) = false := beq_eq_false_iff_ne.mpr c36; have c36b1 : ((Go.bits .and .i64 ba 8) != 0) = true := bne_iff_ne.mpr c36; simp only [Option.some.injEq, Prod.mk.injEq] at H; obtain ⟨rfl, rfl, rfl, rfl, rfl, rfl, rfl⟩ := H; have iL := dw.out; have iM := b7.out; have iN := dy.out; have iO := dx.out; obtain ⟨iP, iQ, iR, iS, iT⟩ := c5e bx; obtain ⟨iU, iV, iW, iX, iY⟩ := z5_ bx; have iZ := df.out; have i0 := d8.out; obtain ⟨i1, i2, i3, i4, i5⟩ := c5e bm; obtain ⟨i6, i7, i8, i9, ja⟩ := z5_ bm; go_wp2; refine bodyPost_ret (results_cell_row rfl _ _ bP 25 #[.int .i64 bG, .int .i64 dg, .int .i64 dz, .int .i64 0, .int .i64 b1] (0, 0) _ rfl (p5 bm (k1_ b7.out (nb bm))) Try.underlying25 rfl (by kernel_rfl)) rfl ?_; exact ⟨er_, IsS69.n, IsS69.nb, nK HK⟩
     ·rw [if_neg c35] at H
      have c35b0 : ((Go.bits .and .i64 ba 4) == 0) = false := beq_eq_false_iff_ne.mpr c35; have c35b1 : ((Go.bits .and .i64 ba 4) != 0) = true := bne_iff_ne.mpr c35
      by_cases c47 : (Go.bits .and .i64 ba 8) = 0
      ·rw [if_pos c47] at H
       have c47b0 : ((Go.bits .and .i64 ba 8) == 0) = true := beq_iff_eq.mpr c47; have c47b1 : ((Go.bits .and .i64 ba 8) != 0) = false := bne_eq_false_iff_eq.mpr c47; clear c47; simp only [Option.some.injEq, Prod.mk.injEq] at H; obtain ⟨rfl, rfl, rfl, rfl, rfl, rfl, rfl⟩ := H; have jb := dw.out; have jc := b7.out; have jd := dy.out; have je := dx.out; obtain ⟨jf, jg, jh, ji, jj⟩ := c5e bx; obtain ⟨jk, jl, jm, jn, jo⟩ := z5_ bx; have jp := df.out; have jq := d8.out; obtain ⟨jr, js, jt, ju, jv⟩ := c5e bm; obtain ⟨jw, jx, jy, jz, jA⟩ := z5_ bm; go_wp2; refine bodyPost_ret (results_cell_row rfl _ _ bP 25 #[.int .i64 bG, .int .i64 dg, .int .i64 dz, .int .i64 bM, .int .i64 0] (0, 0) _ rfl (p5 bm (k1_ b7.out (nb bm))) Try.underlying25 rfl (by kernel_rfl)) rfl ?_; exact ⟨er_, IsS69.n, IsS69.nb, nK HK⟩
      ·rw [if_neg c47] at H
       have c47b0 : ((Go.bits .and .i64 ba 8) == 0) = false := beq_eq_false_iff_ne.mpr c47; have c47b1 : ((Go.bits .and .i64 ba 8) != 0) = true := bne_iff_ne.mpr c47; simp only [Option.some.injEq, Prod.mk.injEq] at H; obtain ⟨rfl, rfl, rfl, rfl, rfl, rfl, rfl⟩ := H; have gV := dw.out; have gW := b7.out; have jB := dy.out; have jC := dx.out; obtain ⟨jD, jE, jF, jG, jH⟩ := c5e bx; obtain ⟨jI, jJ, jK, jL, jM⟩ := z5_ bx; have jN := df.out; have jO := d8.out; obtain ⟨jP, jQ, jR, jS, jT⟩ := c5e bm; obtain ⟨jU, jV, jW, jX, jY⟩ := z5_ bm; go_wp2; refine bodyPost_ret (results_cell_row rfl _ _ bP 25 #[.int .i64 bG, .int .i64 dg, .int .i64 dz, .int .i64 bM, .int .i64 b1] (0, 0) _ rfl (p5 bm (k2_ b7.out (nb bm))) Try.underlying25 rfl (by kernel_rfl)) rfl ?_; exact ⟨er_, IsS69.n, IsS69.nb, nK HK⟩
/-! ### spec_l6Spoil: function 39 -/
def spec_l6Spoil.f (s0_0 : List Int) (s0_1 : Int) (s0_2 : Int) (a1_0 : Int) (a1_1 : Int) (a1_2 : Int) (a1_3 : Int) (a1_4 : Int) : Option (Int × Int × Int × Int × Int × Int × Int) := (spec_l1Below.f s0_0 s0_1 s0_2 7).bind fun bv => (if bv.1 = 0 then ((spec_l1Below.f s0_0 bv.2.1 bv.2.2 18).bind fun b9 => (some (wrap64 (b9.1 - 1), a1_1, a1_2, a1_3, a1_4, b9.2.1, b9.2.2))) else (if bv.1 = 1 then ((spec_l1PickInt.f s0_0 bv.2.1 bv.2.2 (([(-1), 7, 8] : List Int))).bind fun bQ => (some (a1_0, bQ.1, a1_2, a1_3, a1_4, bQ.2.1, bQ.2.2))) else (if bv.1 = 2 then ((spec_l1PickInt.f s0_0 bv.2.1 bv.2.2 (([(-1), 7, 8] : List Int))).bind fun bR => (some (a1_0, a1_1, bR.1, a1_3, a1_4, bR.2.1, bR.2.2))) else (if bv.1 = 3 then ((spec_l1PickInt.f s0_0 bv.2.1 bv.2.2 (([(-128), (-129), 127, 128] : List Int))).bind fun bS => (some (a1_0, a1_1, a1_2, a1_3, bS.1, bS.2.1, bS.2.2))) else (some (a1_0, a1_1, a1_2, a1_3, a1_4, bv.2.1, bv.2.2))))))
set_option maxHeartbeats 8000000 in
set_option maxRecDepth 100000 in
theorem spec_l6Spoil.calls (g : Nat) (s0_0 : List Int) (s0_1 : Int) (s0_2 : Int) (a1_0 : Int) (a1_1 : Int) (a1_2 : Int) (a1_3 : Int) (a1_4 : Int) (r1 : Int) (r2 : Int) (r3 : Int) (r4 : Int) (r5 : Int) (r6 : Int) (r7 : Int) (w0 w : World) (hI : IsS69 w0 w g s0_0 s0_1 s0_2) (hB : Below w0.heap.size w0 w) (h : spec_l6Spoil.f s0_0 s0_1 s0_2 a1_0 a1_1 a1_2 a1_3 a1_4 = some (r1, r2, r3, r4, r5, r6, r7)) :
  Calls Try.prog 39 #[.pointer (some ⟨g, 0, none⟩), .agg #[.int .i64 a1_0, .int .i64 a1_1, .int .i64 a1_2, .int .i64 a1_3, .int .i64 a1_4]] w fun e w' => e = .returned (.agg #[.int .i64 r1, .int .i64 r2, .int .i64 r3, .int .i64 r4, .int .i64 r5]) ∧ IsS69 w0 w' g s0_0 r6 r7 ∧ Below w0.heap.size w0 w' ∧ KeepBut w w' g none := by
 have hu25 := Try.underlying25; have HI0 := Aside0.mk hI; have HK := Aside0.mk (KeepBut.refl w g none); have HL := Aside0.mk hB.size; have hg0 : g + 1 ≤ w.heap.size := IsS69.lt hI; have h00 := hB.size; have zg := dl1 hg0; clear hI; have HW0 := Aside0.mk hB.size; have HB := Aside0.mk hB; clear hB; have H := h; clear h; unfold spec_l6Spoil.f at H; (try dsimp only at H); replace H := Option.bind_eq_some_iff.mp H; obtain ⟨⟨bw, bD, bE⟩, A30, H⟩ := H; (try dsimp only at H); have A3 := Aside0.mk A30; clear A30
 by_cases c4 : bw = 0
 ·rw [if_pos c4] at H
  have c4b0 : (bw == 0) = true := beq_iff_eq.mpr c4; have c4b1 : (bw != 0) = false := bne_eq_false_iff_eq.mpr c4; clear c4; replace H := Option.bind_eq_some_iff.mp H; obtain ⟨⟨es, e9, ga⟩, A50, H⟩ := H; (try dsimp only at H); have A5 := Aside0.mk A50; clear A50; simp only [Option.some.injEq, Prod.mk.injEq] at H; obtain ⟨rfl, rfl, rfl, rfl, rfl, rfl, rfl⟩ := H
  go_enter Try.func39, Try.ntmps39
  go_wp2_with (first | (go_at_call 16; (with_reducible refine dmc (spec_l1Below.calls (h := A3.out) (g := g) (w0 := w0) (w := _) (hI := ?hI) (hB := ?hB)) ?_); (case hI => exact dIn); (case hB => exact dBn); intro x1 hi hb hk hs hc; have hw := dzc (n := w.heap.size + 1 + 1) hs; have z := dl2 hw; have hg0 := dzc (n := g + 1) hs; have zg := dl1 hg0) | (go_at_call 16; (with_reducible refine dmc (spec_l1Below.calls (h := A5.out) (g := g) (w0 := w0) (w := _) (hI := ?hI) (hB := ?hB)) ?_); (case hI => exact dIn); (case hB => exact dBn); intro x2 hi hb hk hs hc; have hw := dzc (n := w.heap.size + 1 + 1) hs; have z := dl2 hw; have hg0 := dzc (n := g + 1) hs; have zg := dl1 hg0))
  refine bodyPost_ret (drc rfl _ _ rfl (by go_simp; rfl)) rfl ?_; exact ⟨rfl, dIn, dBn, dKn⟩
 ·rw [if_neg c4] at H
  have c4b0 : (bw == 0) = false := beq_eq_false_iff_ne.mpr c4; have c4b1 : (bw != 0) = true := bne_iff_ne.mpr c4
  by_cases c15 : bw = 1
  ·rw [if_pos c15] at H
   have c15b0 : (bw == 1) = true := beq_iff_eq.mpr c15; have c15b1 : (bw != 1) = false := bne_eq_false_iff_eq.mpr c15; clear c15; obtain ⟨et, dS⟩ : ∃ y_ : List Int, y_ = (([(-1), 7, 8] : List Int)) := ⟨_, rfl⟩; replace H : ((spec_l1PickInt.f s0_0 bD bE et).bind fun bQ => (some (a1_0, bQ.1, a1_2, a1_3, a1_4, bQ.2.1, bQ.2.2))) = some (r1, r2, r3, r4, r5, r6, r7) := by first | (rw [dS]; with_reducible exact H) | (have H2_ := (Option.bind_some _ _).symm.trans H; rw [dS]; with_reducible exact H2_) | (have H2_ := (Option.bind_some _ _).symm.trans H; with_reducible exact H2_) | with_reducible exact H | (rw [dS]; exact H) | exact H
   have gb := Aside0.mk dS; clear dS; replace H := Option.bind_eq_some_iff.mp H; obtain ⟨⟨eu, gc, gd⟩, A160, H⟩ := H; (try dsimp only at H); have A16 := Aside0.mk A160; clear A160; simp only [Option.some.injEq, Prod.mk.injEq] at H; obtain ⟨rfl, rfl, rfl, rfl, rfl, rfl, rfl⟩ := H
   (try (have e_ := gi.out; subst e_))
   (try (have e_ := gf.out; subst e_))
   (try (have e_ := gb.out; subst e_))
   go_enter Try.func39, Try.ntmps39
   go_wp2_with (first | (go_at_call 16; (with_reducible refine dmc (spec_l1Below.calls (h := A3.out) (g := g) (w0 := w0) (w := _) (hI := ?hI) (hB := ?hB)) ?_); (case hI => exact dIn); (case hB => exact dBn); intro x1 hi hb hk hs hc; have hw := dzc (n := w.heap.size + 1 + 1) hs; have z := dl2 hw; have hg0 := dzc (n := g + 1) hs; have zg := dl1 hg0) | (go_at_call 43; (with_reducible refine dma (spec_l1PickInt.calls (h := A16.out) (g := g) (A1 := ?A1_4) (c1 := ?c1_4) (w0 := w0) (w := _) (hI := ?hI) (hB := ?hB) (hr1 := ?hr1) (hc1 := ?hc1) (hf1 := ?hf1)) ?ha ?_); (case ha => rfl); (case hI => exact dIn); (case hB => exact dBn); (case hr1 => exact dCl); (case hc1 => exact (by first | decide | simp)); (case hf1 => exact (by intro ad_ h_ _; cases h_; first | omega | (show _ ≠ _; omega) | (simp; omega))); intro x2 hi hb hk hs hc; have hw := dzc (n := w.heap.size + 1 + 1) hs; have z := dl2 hw; have hx1 := dzc (n := x1.heap.size + 1) hs; have z := dl1 hx1; have hg0 := dzc (n := g + 1) hs; have zg := dl1 hg0))
   refine bodyPost_ret (drc rfl _ _ rfl (by go_simp; rfl)) rfl ?_; exact ⟨rfl, dIn, dBn, dKn⟩
  ·rw [if_neg c15] at H
   have c15b0 : (bw == 1) = false := beq_eq_false_iff_ne.mpr c15; have c15b1 : (bw != 1) = true := bne_iff_ne.mpr c15
   by_cases c29 : bw = 2
   ·rw [if_pos c29] at H
    have c29b0 : (bw == 2) = true := beq_iff_eq.mpr c29; have c29b1 : (bw != 2) = false := bne_eq_false_iff_eq.mpr c29; clear c29; obtain ⟨ew, dU⟩ : ∃ y_ : List Int, y_ = (([(-1), 7, 8] : List Int)) := ⟨_, rfl⟩; replace H : ((spec_l1PickInt.f s0_0 bD bE ew).bind fun bR => (some (a1_0, a1_1, bR.1, a1_3, a1_4, bR.2.1, bR.2.2))) = some (r1, r2, r3, r4, r5, r6, r7) := by first | (rw [dU]; with_reducible exact H) | (have H2_ := (Option.bind_some _ _).symm.trans H; rw [dU]; with_reducible exact H2_) | (have H2_ := (Option.bind_some _ _).symm.trans H; with_reducible exact H2_) | with_reducible exact H | (rw [dU]; exact H) | exact H
    have gf := Aside0.mk dU; clear dU; replace H := Option.bind_eq_some_iff.mp H; obtain ⟨⟨ex, gg, gh⟩, A300, H⟩ := H; (try dsimp only at H); have A30 := Aside0.mk A300; clear A300; simp only [Option.some.injEq, Prod.mk.injEq] at H; obtain ⟨rfl, rfl, rfl, rfl, rfl, rfl, rfl⟩ := H
    (try (have e_ := gi.out; subst e_))
    (try (have e_ := gf.out; subst e_))
    (try (have e_ := gb.out; subst e_))
    go_enter Try.func39, Try.ntmps39
    go_wp2_with (first | (go_at_call 16; (with_reducible refine dmc (spec_l1Below.calls (h := A3.out) (g := g) (w0 := w0) (w := _) (hI := ?hI) (hB := ?hB)) ?_); (case hI => exact dIn); (case hB => exact dBn); intro x1 hi hb hk hs hc; have hw := dzc (n := w.heap.size + 1 + 1) hs; have z := dl2 hw; have hg0 := dzc (n := g + 1) hs; have zg := dl1 hg0) | (go_at_call 43; (with_reducible refine dma (spec_l1PickInt.calls (h := A30.out) (g := g) (A1 := ?A1_6) (c1 := ?c1_6) (w0 := w0) (w := _) (hI := ?hI) (hB := ?hB) (hr1 := ?hr1) (hc1 := ?hc1) (hf1 := ?hf1)) ?ha ?_); (case ha => rfl); (case hI => exact dIn); (case hB => exact dBn); (case hr1 => exact dCl); (case hc1 => exact (by first | decide | simp)); (case hf1 => exact (by intro ad_ h_ _; cases h_; first | omega | (show _ ≠ _; omega) | (simp; omega))); intro x2 hi hb hk hs hc; have hw := dzc (n := w.heap.size + 1 + 1) hs; have z := dl2 hw; have hx1 := dzc (n := x1.heap.size + 1) hs; have z := dl1 hx1; have hg0 := dzc (n := g + 1) hs; have zg := dl1 hg0))
    refine bodyPost_ret (drc rfl _ _ rfl (by go_simp; rfl)) rfl ?_; exact ⟨rfl, dIn, dBn, dKn⟩
   ·rw [if_neg c29] at H
    have c29b0 : (bw == 2) = false := beq_eq_false_iff_ne.mpr c29; have c29b1 : (bw != 2) = true := bne_iff_ne.mpr c29
    by_cases c43 : bw = 3
    ·rw [if_pos c43] at H
     have c43b0 : (bw == 3) = true := beq_iff_eq.mpr c43; have c43b1 : (bw != 3) = false := bne_eq_false_iff_eq.mpr c43; clear c43; obtain ⟨ey, dW⟩ : ∃ y_ : List Int, y_ = (([(-128), (-129), 127, 128] : List Int)) := ⟨_, rfl⟩; replace H : ((spec_l1PickInt.f s0_0 bD bE ey).bind fun bS => (some (a1_0, a1_1, a1_2, a1_3, bS.1, bS.2.1, bS.2.2))) = some (r1, r2, r3, r4, r5, r6, r7) := by first | (rw [dW]; with_reducible exact H) | (have H2_ := (Option.bind_some _ _).symm.trans H; rw [dW]; with_reducible exact H2_) | (have H2_ := (Option.bind_some _ _).symm.trans H; with_reducible exact H2_) | with_reducible exact H | (rw [dW]; exact H) | exact H
     have gi := Aside0.mk dW; clear dW; replace H := Option.bind_eq_some_iff.mp H; obtain ⟨⟨ez, gj, gl⟩, A440, H⟩ := H; (try dsimp only at H); have A44 := Aside0.mk A440; clear A440; simp only [Option.some.injEq, Prod.mk.injEq] at H; obtain ⟨rfl, rfl, rfl, rfl, rfl, rfl, rfl⟩ := H
     (try (have e_ := gi.out; subst e_))
     (try (have e_ := gf.out; subst e_))
     (try (have e_ := gb.out; subst e_))
     go_enter Try.func39, Try.ntmps39
     go_wp2_with (first | (go_at_call 16; (with_reducible refine dmc (spec_l1Below.calls (h := A3.out) (g := g) (w0 := w0) (w := _) (hI := ?hI) (hB := ?hB)) ?_); (case hI => exact dIn); (case hB => exact dBn); intro x1 hi hb hk hs hc; have hw := dzc (n := w.heap.size + 1 + 1) hs; have z := dl2 hw; have hg0 := dzc (n := g + 1) hs; have zg := dl1 hg0) | (go_at_call 43; (with_reducible refine dma (spec_l1PickInt.calls (h := A44.out) (g := g) (A1 := ?A1_8) (c1 := ?c1_8) (w0 := w0) (w := _) (hI := ?hI) (hB := ?hB) (hr1 := ?hr1) (hc1 := ?hc1) (hf1 := ?hf1)) ?ha ?_); (case ha => rfl); (case hI => exact dIn); (case hB => exact dBn); (case hr1 => exact dCl); (case hc1 => exact (by first | decide | simp)); (case hf1 => exact (by intro ad_ h_ _; cases h_; first | omega | (show _ ≠ _; omega) | (simp; omega))); intro x2 hi hb hk hs hc; have hw := dzc (n := w.heap.size + 1 + 1) hs; have z := dl2 hw; have hx1 := dzc (n := x1.heap.size + 1) hs; have z := dl1 hx1; have hg0 := dzc (n := g + 1) hs; have zg := dl1 hg0))
     refine bodyPost_ret (drc rfl _ _ rfl (by go_simp; rfl)) rfl ?_; exact ⟨rfl, dIn, dBn, dKn⟩
    ·rw [if_neg c43] at H
     have c43b0 : (bw == 3) = false := beq_eq_false_iff_ne.mpr c43; have c43b1 : (bw != 3) = true := bne_iff_ne.mpr c43; simp only [Option.some.injEq, Prod.mk.injEq] at H; obtain ⟨rfl, rfl, rfl, rfl, rfl, rfl, rfl⟩ := H
     go_enter Try.func39, Try.ntmps39
     go_wp2_with (first | (go_at_call 16; (with_reducible refine dmc (spec_l1Below.calls (h := A3.out) (g := g) (w0 := w0) (w := _) (hI := ?hI) (hB := ?hB)) ?_); (case hI => exact dIn); (case hB => exact dBn); intro x1 hi hb hk hs hc; have hw := dzc (n := w.heap.size + 1 + 1) hs; have z := dl2 hw; have hg0 := dzc (n := g + 1) hs; have zg := dl1 hg0))
     refine bodyPost_ret (drc rfl _ _ rfl (by go_simp; rfl)) rfl ?_; exact ⟨rfl, dIn, dBn, dKn⟩
/-! ### spec_l6DrawOne: function 14 -/
def spec_l6DrawOne.f (k : Nat) (l0 : List Int) : Option (Int × Int × Int × Int × Int) := (spec_l1New.f k l0).bind fun da => ((spec_l6DrawIns.f k da.1 da.2.1 da.2.2).bind fun br => ((spec_l1Once.f da.1 br.2.2.2.2.2.1 br.2.2.2.2.2.2 2).bind fun bT => (if bT.1 = true then ((spec_l6Spoil.f da.1 bT.2.1 bT.2.2 br.1 br.2.1 br.2.2.1 br.2.2.2.1 br.2.2.2.2.1).bind fun bt => (some (bt.1, bt.2.1, bt.2.2.1, bt.2.2.2.1, bt.2.2.2.2.1))) else (some (br.1, br.2.1, br.2.2.1, br.2.2.2.1, br.2.2.2.2.1)))))
theorem spec_l6DrawOne.mono : ∀ a0 k, LeO (spec_l6DrawOne.f k a0) (spec_l6DrawOne.f (k + 1) a0) := by
 intro a0 k
 unfold spec_l6DrawOne.f
 repeat' first
   | (with_reducible exact spec_l1New.mono _ _)
   | (with_reducible exact spec_l6DrawIns.mono _ _ _ _)
   | (with_reducible exact LeO.refl _)
   | (with_reducible exact LeO.none _)
   | (with_reducible refine LeO.ite ?_ ?_)
   | (with_reducible refine LeO.bind ?_ (fun _ => ?_))
   | exact spec_l1New.mono _ _
   | exact spec_l6DrawIns.mono _ _ _ _
   | exact LeO.none _
   | refine LeO.ite ?_ ?_
   | refine LeO.bind ?_ (fun _ => ?_)
set_option maxHeartbeats 8000000 in
set_option maxRecDepth 100000 in
theorem spec_l6DrawOne.calls (k : Nat) (A0 : Option Addr) (c0 : Nat) (l0 : List Int) (r1 : Int) (r2 : Int) (r3 : Int) (r4 : Int) (r5 : Int) (w : World) (hr0 : Kd.C (Kd.int .u8) w A0 l0.length l0) (hc0 : l0.length ≤ c0) (h : spec_l6DrawOne.f k l0 = some (r1, r2, r3, r4, r5)) :
  Calls Try.prog 14 #[.slice A0 l0.length c0] w fun e w' => e = .returned (.agg #[.int .i64 r1, .int .i64 r2, .int .i64 r3, .int .i64 r4, .int .i64 r5]) ∧ Below w.heap.size w w' := by
 have hu25 := Try.underlying25; have gm := Aside0.mk hr0; have gn := Aside0.mk hc0; clear hr0 hc0; have HB := Aside0.mk (Below.refl w.heap.size w); have H := h; clear h; unfold spec_l6DrawOne.f at H; (try dsimp only at H); replace H := Option.bind_eq_some_iff.mp H; obtain ⟨⟨bK, dY, dZ⟩, A20, H⟩ := H; (try dsimp only at H); have A2 := Aside0.mk A20; clear A20; replace H := Option.bind_eq_some_iff.mp H; obtain ⟨⟨bV, bW, bX, bY, bZ, dk, dl⟩, A30, H⟩ := H; (try dsimp only at H); have A3 := Aside0.mk A30; clear A30; replace H := Option.bind_eq_some_iff.mp H; obtain ⟨⟨gp, d0, d1⟩, A40, H⟩ := H; (try dsimp only at H); have A4 := Aside0.mk A40; clear A40
 by_cases c5 : gp = true
 ·subst c5
  rw [if_pos rfl] at H; (try dsimp only at H); replace H := Option.bind_eq_some_iff.mp H; obtain ⟨⟨eA, eB, eC, eD, eE, hG, hH⟩, A60, H⟩ := H; (try dsimp only at H); have A6 := Aside0.mk A60; clear A60; simp only [Option.some.injEq, Prod.mk.injEq] at H; obtain ⟨rfl, rfl, rfl, rfl, rfl⟩ := H
  go_enter Try.func14, Try.ntmps14
  go_wp2_with (first | ((with_reducible refine gate_dst (N := 2) rfl ?_); refine bxe 2 #[.int .i64 0, .int .i64 0, .int .i64 0, .int .i64 0, .int .i64 0] 25 ?_; intro b0 hg w7 hbox hb; have bs := hbox; have hJ := nge HB hg; have hK := nge HB hg; replace HB := nbs HB hb; clear hb hbox hg) | ((with_reducible refine gate_callee (f := 13) rfl ?_); refine goesM (some 6) rfl rfl Try.func13 (by kernel_rfl) rfl #[.slice A0 l0.length c0] rfl ?_; (with_reducible refine (spec_l1New.calls k _ _ l0 bK dY dZ w _ ?side1 ?side2 ?side3 A2.out).mono ?_); (case side1 => exact nbe HB); (case side2 => exact gm.out); (case side3 => exact gn.out); rintro e w8 ⟨g186, rfl, hi, hb, hb2, _⟩; refine ⟨_, rfl, ?_⟩; have HI186 := Aside0.mk (hi); have eF := Aside0.mk (IsS69.ne_blk hi (blk_below (g := b0) (o := .cells #[.int .i64 0, .int .i64 0, .int .i64 0, .int .i64 0, .int .i64 0] 25 (0, 0)) (nb bs) hb2) (by decide)); have dn := Aside0.mk (Ne.symm (IsS69.ne_blk hi (blk_below (g := b0) (o := .cells #[.int .i64 0, .int .i64 0, .int .i64 0, .int .i64 0, .int .i64 0] 25 (0, 0)) (nb bs) hb2) (by decide))); replace bs := Aside0.mk (blk_below (g := b0) (o := .cells #[.int .i64 0, .int .i64 0, .int .i64 0, .int .i64 0, .int .i64 0] 25 (0, 0)) (nb bs) hb2); replace HB := Aside0.mk (hb); (try clear hb)) | ((with_reducible refine gate_callee (f := 38) rfl ?_); refine goesM (some 8) rfl rfl Try.func38 (by kernel_rfl) rfl #[.pointer (some ⟨g186, 0, none⟩)] rfl ?_; (with_reducible refine (spec_l6DrawIns.calls k g186 bK dY dZ bV bW bX bY bZ dk dl w _ ?side1 ?side2 A3.out).mono ?_); (case side1 => exact IsS69.n); (case side2 => exact IsS69.nb); rintro e w9 ⟨rfl, hi, hb, hk⟩; refine ⟨_, rfl, ?_⟩; replace bs := Aside0.mk (KeepBut.blk hk (g' := b0) (o := .cells #[.int .i64 0, .int .i64 0, .int .i64 0, .int .i64 0, .int .i64 0] 25 (0, 0)) (nb bs) dn.out (by simp)); replace HB := Aside0.mk (hb); replace HI186 := Aside0.mk (hi); (try clear hb)) | ((with_reducible refine gate_dst (N := 4) rfl ?_); refine bxe 4 #[.int .i64 0, .int .i64 0, .int .i64 0, .int .i64 0, .int .i64 0] 25 ?_; intro b8 hg gy hbox hb; have bf := nblk bs hb; have bg := Aside0.mk (IsS69.below (IsS69.n) hb); have bh := Aside0.mk (below_step (IsS69.nb) hb); have bi := hbox; have bj := Aside0.mk ((by rw [hg]; exact (below_size (IsS69.nb)) : w.heap.size ≤ b8)); have bk := Aside0.mk ((by rw [hg]; exact (below_size (IsS69.nb)) : w.heap.size ≤ b8)); have bn := nlt bs hg; have bp := ngt bs hg; have bz := Aside0.mk ((by rw [hg]; exact Nat.ne_of_lt (IsS69.lt (show IsS69 w _ g186 bK dk dl from IsS69.n)) : g186 ≠ b8)); have bA := Aside0.mk ((by rw [hg]; exact Nat.ne_of_gt (IsS69.lt (show IsS69 w _ g186 bK dk dl from IsS69.n)) : b8 ≠ g186)); clear bs HI186 HB; have bs := bf; have HI186 := bg; have HB := bh; have bO := bi; have hL := bj; have hM := bk; have dH := bn; have eG := bp; have eH := bz; have dI := bA; clear bf bg bh bi bj bk bn bp bz bA; clear hb hbox hg; have gX := eG.out; have gY := dH.out; have mY := dI.out; have mZ := eH.out; obtain ⟨m0, m1, m2, m3, m4⟩ := c5e bO; obtain ⟨m5, m6, m7, m8, m9⟩ := z5_ bO) | ((with_reducible refine gate_callee (f := 17) rfl ?_); refine goesM (some 10) rfl rfl Try.func17 (by kernel_rfl) rfl #[.pointer (some ⟨g186, 0, none⟩), .int .i64 2] rfl ?_; (with_reducible refine (spec_l1Once.calls g186 bK dk dl 2 true d0 d1 w _ ?side1 ?side2 A4.out).mono ?_); (case side1 => exact IsS69.n); (case side2 => exact IsS69.nb); rintro e na ⟨rfl, hi, hb, hk⟩; refine ⟨_, rfl, ?_⟩; replace bs := Aside0.mk (KeepBut.blk hk (g' := b0) (o := .cells #[.int .i64 0, .int .i64 0, .int .i64 0, .int .i64 0, .int .i64 0] 25 (0, 0)) (k5_ dH.out (nb bs)) dn.out (by simp)); replace bO := Aside0.mk (KeepBut.blk hk (g' := b8) (o := .cells #[.int .i64 bV, .int .i64 bW, .int .i64 bX, .int .i64 bY, .int .i64 bZ] 25 (0, 0)) (q5 bO) dI.out (by simp)); replace HB := Aside0.mk (hb); replace HI186 := Aside0.mk (hi); (try clear hb); obtain ⟨nc, nf, ng, nh, ni⟩ := c5e bO; obtain ⟨nj, nk, nl, nm, nn⟩ := z5_ bO) | ((with_reducible refine gate_callee (f := 39) rfl ?_); refine goesM (some 13) rfl rfl Try.func39 (by kernel_rfl) rfl #[.pointer (some ⟨g186, 0, none⟩), .agg #[.int .i64 bV, .int .i64 bW, .int .i64 bX, .int .i64 bY, .int .i64 bZ]] rfl ?_; (with_reducible refine (spec_l6Spoil.calls g186 bK d0 d1 bV bW bX bY bZ eA eB eC eD eE hG hH w _ ?side1 ?side2 A6.out).mono ?_); (case side1 => exact IsS69.n); (case side2 => exact IsS69.nb); rintro e gC ⟨rfl, hi, hb, hk⟩; refine ⟨_, rfl, ?_⟩; replace bs := Aside0.mk (KeepBut.blk hk (g' := b0) (o := .cells #[.int .i64 0, .int .i64 0, .int .i64 0, .int .i64 0, .int .i64 0] 25 (0, 0)) (nb bs) dn.out (by simp)); replace bO := Aside0.mk (KeepBut.blk hk (g' := b8) (o := .cells #[.int .i64 bV, .int .i64 bW, .int .i64 bX, .int .i64 bY, .int .i64 bZ] 25 (0, 0)) (nb bO) dI.out (by simp)); replace HB := Aside0.mk (hb); replace HI186 := Aside0.mk (hi); (try clear hb); obtain ⟨hN, hO, hQ, np, nq⟩ := c5e bO; obtain ⟨hR, hS, hT, nr, ns⟩ := z5_ bO; have nt := dn.out; have nu := eF.out; obtain ⟨nv, nw, nx, ny, nz⟩ := c5e bs; obtain ⟨nA, nB, nC, nD, nE⟩ := z5_ bs))
  refine bodyPost_ret (results_cell_row rfl _ _ b0 25 #[.int .i64 eA, .int .i64 eB, .int .i64 eC, .int .i64 eD, .int .i64 eE] (0, 0) _ rfl (p5 bs (k5_ dH.out (nb bs))) Try.underlying25 rfl (by kernel_rfl)) rfl ?_; exact ⟨er_, IsS69.nb⟩
 ·replace c5 := Bool.eq_false_iff.mpr c5
  subst c5; rw [if_neg (show ¬ (false = true) by decide)] at H; (try dsimp only at H); simp only [Option.some.injEq, Prod.mk.injEq] at H; obtain ⟨rfl, rfl, rfl, rfl, rfl⟩ := H
  go_enter Try.func14, Try.ntmps14
  go_wp2_with (first | ((with_reducible refine gate_dst (N := 2) rfl ?_); refine bxe 2 #[.int .i64 0, .int .i64 0, .int .i64 0, .int .i64 0, .int .i64 0] 25 ?_; intro b0 hg eK hbox hb; have bs := hbox; have hJ := nge HB hg; have hK := nge HB hg; replace HB := nbs HB hb; clear hb hbox hg) | ((with_reducible refine gate_callee (f := 13) rfl ?_); refine goesM (some 6) rfl rfl Try.func13 (by kernel_rfl) rfl #[.slice A0 l0.length c0] rfl ?_; (with_reducible refine (spec_l1New.calls k _ _ l0 bK dY dZ w _ ?side1 ?side2 ?side3 A2.out).mono ?_); (case side1 => exact nbe HB); (case side2 => exact gm.out); (case side3 => exact gn.out); rintro e eL ⟨g186, rfl, hi, hb, hb2, _⟩; refine ⟨_, rfl, ?_⟩; have HI186 := Aside0.mk (hi); have eF := Aside0.mk (IsS69.ne_blk hi (blk_below (g := b0) (o := .cells #[.int .i64 0, .int .i64 0, .int .i64 0, .int .i64 0, .int .i64 0] 25 (0, 0)) (nb bs) hb2) (by decide)); have dn := Aside0.mk (Ne.symm (IsS69.ne_blk hi (blk_below (g := b0) (o := .cells #[.int .i64 0, .int .i64 0, .int .i64 0, .int .i64 0, .int .i64 0] 25 (0, 0)) (nb bs) hb2) (by decide))); replace bs := Aside0.mk (blk_below (g := b0) (o := .cells #[.int .i64 0, .int .i64 0, .int .i64 0, .int .i64 0, .int .i64 0] 25 (0, 0)) (nb bs) hb2); replace HB := Aside0.mk (hb); (try clear hb)) | ((with_reducible refine gate_callee (f := 38) rfl ?_); refine goesM (some 8) rfl rfl Try.func38 (by kernel_rfl) rfl #[.pointer (some ⟨g186, 0, none⟩)] rfl ?_; (with_reducible refine (spec_l6DrawIns.calls k g186 bK dY dZ bV bW bX bY bZ dk dl w _ ?side1 ?side2 A3.out).mono ?_); (case side1 => exact IsS69.n); (case side2 => exact IsS69.nb); rintro e nF ⟨rfl, hi, hb, hk⟩; refine ⟨_, rfl, ?_⟩; replace bs := Aside0.mk (KeepBut.blk hk (g' := b0) (o := .cells #[.int .i64 0, .int .i64 0, .int .i64 0, .int .i64 0, .int .i64 0] 25 (0, 0)) (nb bs) dn.out (by simp)); replace HB := Aside0.mk (hb); replace HI186 := Aside0.mk (hi); (try clear hb)) | ((with_reducible refine gate_dst (N := 4) rfl ?_); refine bxe 4 #[.int .i64 0, .int .i64 0, .int .i64 0, .int .i64 0, .int .i64 0] 25 ?_; intro b8 hg g2 hbox hb; have bf := nblk bs hb; have bg := Aside0.mk (IsS69.below (IsS69.n) hb); have bh := Aside0.mk (below_step (IsS69.nb) hb); have bi := hbox; have bj := Aside0.mk ((by rw [hg]; exact (below_size (IsS69.nb)) : w.heap.size ≤ b8)); have bk := Aside0.mk ((by rw [hg]; exact (below_size (IsS69.nb)) : w.heap.size ≤ b8)); have bn := nlt bs hg; have bp := ngt bs hg; have bz := Aside0.mk ((by rw [hg]; exact Nat.ne_of_lt (IsS69.lt (show IsS69 w _ g186 bK dk dl from IsS69.n)) : g186 ≠ b8)); have bA := Aside0.mk ((by rw [hg]; exact Nat.ne_of_gt (IsS69.lt (show IsS69 w _ g186 bK dk dl from IsS69.n)) : b8 ≠ g186)); clear bs HI186 HB; have bs := bf; have HI186 := bg; have HB := bh; have bO := bi; have hL := bj; have hM := bk; have dH := bn; have eG := bp; have eH := bz; have dI := bA; clear bf bg bh bi bj bk bn bp bz bA; clear hb hbox hg; have g3 := eG.out; have g4 := dH.out; have g5 := dI.out; have g6 := eH.out; obtain ⟨g7, g8, g9, ha, hc⟩ := c5e bO; obtain ⟨hf, hh, hj, hl, hm⟩ := z5_ bO) | ((with_reducible refine gate_callee (f := 17) rfl ?_); refine goesM (some 10) rfl rfl Try.func17 (by kernel_rfl) rfl #[.pointer (some ⟨g186, 0, none⟩), .int .i64 2] rfl ?_; (with_reducible refine (spec_l1Once.calls g186 bK dk dl 2 false d0 d1 w _ ?side1 ?side2 A4.out).mono ?_); (case side1 => exact IsS69.n); (case side2 => exact IsS69.nb); rintro e nG ⟨rfl, hi, hb, hk⟩; refine ⟨_, rfl, ?_⟩; replace bs := Aside0.mk (KeepBut.blk hk (g' := b0) (o := .cells #[.int .i64 0, .int .i64 0, .int .i64 0, .int .i64 0, .int .i64 0] 25 (0, 0)) (k5_ dH.out (nb bs)) dn.out (by simp)); replace bO := Aside0.mk (KeepBut.blk hk (g' := b8) (o := .cells #[.int .i64 bV, .int .i64 bW, .int .i64 bX, .int .i64 bY, .int .i64 bZ] 25 (0, 0)) (q5 bO) dI.out (by simp)); replace HB := Aside0.mk (hb); replace HI186 := Aside0.mk (hi); (try clear hb); obtain ⟨hn, ho, hq, hs, ht⟩ := c5e bO; obtain ⟨hu, hv, hw, hx, hy⟩ := z5_ bO; have nH := dn.out; have nI := eF.out; obtain ⟨nJ, nL, nM, nN, nO⟩ := c5e bs; obtain ⟨nP, nQ, nS, nT, nU⟩ := z5_ bs))
  refine bodyPost_ret (results_cell_row rfl _ _ b0 25 #[.int .i64 bV, .int .i64 bW, .int .i64 bX, .int .i64 bY, .int .i64 bZ] (0, 0) _ rfl (q5 bs) Try.underlying25 rfl (by kernel_rfl)) rfl ?_; exact ⟨er_, IsS69.nb⟩
/-! ### spec_BoundsOk: function 74 -/
def spec_BoundsOk.f (a0 : Int) (a1 : Int) : Option (Bool) := (spec_l1In.f a0 0 4096).bind fun dJ => (if dJ = true then ((spec_l1In.f a1 0 4096).bind fun de => (if de = true then (some (decide (a0 ≤ a1))) else (some false))) else (some false))
set_option maxHeartbeats 8000000 in
set_option maxRecDepth 100000 in
theorem spec_BoundsOk.calls (a0 : Int) (a1 : Int) (r : Bool) (w : World) (h : spec_BoundsOk.f a0 a1 = some r) :
  Calls Try.prog 74 #[.int .i64 a0, .int .i64 a1] w fun e w' => e = .returned (.bool r) ∧ Drawn0 w w' := by
 have H := h; clear h; unfold spec_BoundsOk.f at H; (try dsimp only at H); replace H := Option.bind_eq_some_iff.mp H; obtain ⟨dJ, A30, H⟩ := H; (try dsimp only at H); have A3 := Aside0.mk A30; clear A30
 by_cases c4 : dJ = true
 ·subst c4
  rw [if_pos rfl] at H; (try dsimp only at H); replace H := Option.bind_eq_some_iff.mp H; obtain ⟨de, A50, H⟩ := H; (try dsimp only at H); have A5 := Aside0.mk A50; clear A50
  by_cases c6 : de = true
  ·subst c6
   rw [if_pos rfl] at H; (try dsimp only at H); obtain rfl := Option.some.inj H
   go_enter Try.func74, Try.ntmps74
   go_wp2_with (first | ((with_reducible refine gate_callee (f := 32) rfl ?_); refine goesM (some 6) rfl rfl Try.func32 (by kernel_rfl) rfl #[.int .i64 a0, .int .i64 0, .int .i64 4096] rfl ?_; (with_reducible refine (spec_l1In.calls a0 0 4096 true _ A3.out).mono ?_); rintro e w' ⟨rfl, ⟨nd, rfl⟩⟩; refine ⟨_, rfl, ?_⟩) | (go_at_call 32; (with_reducible refine (spec_l1In.calls a1 0 4096 true _ A5.out).mono ?_); rintro e w' ⟨rfl, ⟨nd, rfl⟩⟩))
   go_ret
   exact ⟨by first | rfl | (simp; done) | (simp [*]; done), by repeat (first | exact Drawn0.refl _ | apply Drawn0.step)⟩
  ·replace c6 := Bool.eq_false_iff.mpr c6
   subst c6; rw [if_neg (show ¬ (false = true) by decide)] at H; (try dsimp only at H); obtain rfl := Option.some.inj H
   go_enter Try.func74, Try.ntmps74
   go_wp2_with (first | ((with_reducible refine gate_callee (f := 32) rfl ?_); refine goesM (some 6) rfl rfl Try.func32 (by kernel_rfl) rfl #[.int .i64 a0, .int .i64 0, .int .i64 4096] rfl ?_; (with_reducible refine (spec_l1In.calls a0 0 4096 true _ A3.out).mono ?_); rintro e w' ⟨rfl, ⟨nd, rfl⟩⟩; refine ⟨_, rfl, ?_⟩) | (go_at_call 32; (with_reducible refine (spec_l1In.calls a1 0 4096 false _ A5.out).mono ?_); rintro e w' ⟨rfl, ⟨nd, rfl⟩⟩))
   go_ret
   exact ⟨by first | rfl | (simp; done) | (simp [*]; done), by repeat (first | exact Drawn0.refl _ | apply Drawn0.step)⟩
 ·replace c4 := Bool.eq_false_iff.mpr c4
  subst c4; rw [if_neg (show ¬ (false = true) by decide)] at H; (try dsimp only at H); obtain rfl := Option.some.inj H
  go_enter Try.func74, Try.ntmps74
  go_wp2_with (first | ((with_reducible refine gate_callee (f := 32) rfl ?_); refine goesM (some 6) rfl rfl Try.func32 (by kernel_rfl) rfl #[.int .i64 a0, .int .i64 0, .int .i64 4096] rfl ?_; (with_reducible refine (spec_l1In.calls a0 0 4096 false _ A3.out).mono ?_); rintro e w' ⟨rfl, ⟨nd, rfl⟩⟩; refine ⟨_, rfl, ?_⟩))
  go_ret
  exact ⟨by first | rfl | (simp; done) | (simp [*]; done), by repeat (first | exact Drawn0.refl _ | apply Drawn0.step)⟩
/-! ### spec_Pack: function 85 -/
def spec_Pack.l0 : Nat → Int → Int → Int → Option (Int × Int × Int × Bool)
 | 0, _, _, _ => none
 | k + 1, x0, x1, x6 => if x6 ≤ 6 then (if 0 ≤ x6 then (if (shr .i64 x0 x6) ≤ 63 then (if (shr .i64 (wrap64 ((wrap64 ((wrap64 (x1 - (shl .i64 (shr .i64 x0 x6) x6))) + (shl .i64 1 x6))) - 1)) x6) ≤ 63 then (some (x6, shr .i64 x0 x6, shr .i64 (wrap64 ((wrap64 ((wrap64 (x1 - (shl .i64 (shr .i64 x0 x6) x6))) + (shl .i64 1 x6))) - 1)) x6, true)) else (spec_Pack.l0 k x0 x1 (wrap64 (x6 + 1)))) else (spec_Pack.l0 k x0 x1 (wrap64 (x6 + 1)))) else (none)) else (some (0, 0, 0, false))
def spec_Pack.f (k : Nat) (a0 : Int) (a1 : Int) : Option (Int × Int × Int × Bool) := (spec_BoundsOk.f a0 a1).bind fun dK => (if dK = true then (spec_Pack.l0 k a0 a1 0) else (some (0, 0, 0, false)))
theorem spec_Pack.mono_l : ∀ k, (∀ y0 y1 y2, LeO (spec_Pack.l0 k y0 y1 y2) (spec_Pack.l0 (k + 1) y0 y1 y2))
 | 0 => fun _ _ _ r h => by simp [spec_Pack.l0] at h
 | k + 1 => by
  have ih0 := spec_Pack.mono_l k
  ·intro y0 y1 y2
   unfold spec_Pack.l0
   repeat' first
   | (with_reducible exact ih0 _ _ _)
   | (with_reducible exact LeO.refl _)
   | (with_reducible exact LeO.none _)
   | (with_reducible refine LeO.ite ?_ ?_)
   | (with_reducible refine LeO.bind ?_ (fun _ => ?_))
   | exact ih0 _ _ _
   | exact LeO.none _
   | refine LeO.ite ?_ ?_
   | refine LeO.bind ?_ (fun _ => ?_)
theorem spec_Pack.mono : ∀ a0 a1 k, LeO (spec_Pack.f k a0 a1) (spec_Pack.f (k + 1) a0 a1) := by
 intro a0 a1 k; have ih0 := spec_Pack.mono_l k
 unfold spec_Pack.f
 repeat' first
   | (with_reducible exact ih0 _ _ _)
   | (with_reducible exact LeO.refl _)
   | (with_reducible exact LeO.none _)
   | (with_reducible refine LeO.ite ?_ ?_)
   | (with_reducible refine LeO.bind ?_ (fun _ => ?_))
   | exact ih0 _ _ _
   | exact LeO.none _
   | refine LeO.ite ?_ ?_
   | refine LeO.bind ?_ (fun _ => ?_)
set_option maxHeartbeats 8000000 in
set_option maxRecDepth 100000 in
theorem spec_Pack.calls (k : Nat) (a0 : Int) (a1 : Int) (r1 : Int) (r2 : Int) (r3 : Int) (r4 : Bool) (w : World) (h : spec_Pack.f k a0 a1 = some (r1, r2, r3, r4)) :
  Calls Try.prog 85 #[.int .i64 a0, .int .i64 a1] w fun e w' => e = .returned (.tuple #[.agg #[.int .i64 r1, .int .i64 r2, .int .i64 r3], .bool r4]) ∧ Below w.heap.size w w' := by
 have hu97 := Try.underlying97; have HB := Aside0.mk (Below.refl w.heap.size w); have H : ((spec_BoundsOk.f a0 a1).bind fun dK => (if dK = true then (spec_Pack.l0 k a0 a1 0) else (some (0, 0, 0, false)))) = some (r1, r2, r3, r4) := h; clear h; replace H := Option.bind_eq_some_iff.mp H; obtain ⟨dK, A30, H⟩ := H; replace H : (if dK = true then (spec_Pack.l0 k a0 a1 0) else (some (0, 0, 0, false))) = some (r1, r2, r3, r4) := H; have A3 := Aside0.mk A30; clear A30
 by_cases c4 : dK = true
 ·subst c4
  have H1 : (spec_Pack.l0 k a0 a1 0) = some (r1, r2, r3, r4) := by rw [if_pos rfl] at H; exact H
  clear H; have H := H1; clear H1; have H' := Aside0.mk H; clear H
  go_enter Try.func85, Try.ntmps85
  go_wp2_with (first | ((with_reducible refine gate_dst (N := 4) rfl ?_); refine bxe 4 #[.int .i64 0, .int .i64 0, .int .i64 0] 97 ?_; intro dm hg w5 hbox hb; have bB := hbox; have d2 := nge HB hg; have d3 := nge HB hg; replace HB := nbs HB hb; clear hb hbox hg) | (go_at_call 74; (with_reducible refine (spec_BoundsOk.calls a0 a1 true _ A3.out).mono ?_); rintro e w' ⟨rfl, ⟨nd, rfl⟩⟩; (try first | exact ⟨rfl, _, World.drewN_drewN _ _ _⟩ | exact ⟨rfl, _, Eq.trans (World.drewN_drewN _ _ _) (congrArg (World.drewN _) (Nat.add_assoc _ _ _))⟩)))
  repeat (go_quiet (first | ((with_reducible refine gate_dst (N := 4) rfl ?_); refine bxe 4 #[.int .i64 0, .int .i64 0, .int .i64 0] 97 ?_; intro dm hg w5 hbox hb; have bB := hbox; have d2 := nge HB hg; have d3 := nge HB hg; replace HB := nbs HB hb; clear hb hbox hg) | (go_at_call 74; (with_reducible refine (spec_BoundsOk.calls a0 a1 true _ A3.out).mono ?_); rintro e w' ⟨rfl, ⟨nd, rfl⟩⟩; (try first | exact ⟨rfl, _, World.drewN_drewN _ _ _⟩ | exact ⟨rfl, _, Eq.trans (World.drewN_drewN _ _ _) (congrArg (World.drewN _) (Nat.add_assoc _ _ _))⟩))); try go_wp2_with (first | ((with_reducible refine gate_dst (N := 4) rfl ?_); refine bxe 4 #[.int .i64 0, .int .i64 0, .int .i64 0] 97 ?_; intro dm hg w5 hbox hb; have bB := hbox; have d2 := nge HB hg; have d3 := nge HB hg; replace HB := nbs HB hb; clear hb hbox hg) | (go_at_call 74; (with_reducible refine (spec_BoundsOk.calls a0 a1 true _ A3.out).mono ?_); rintro e w' ⟨rfl, ⟨nd, rfl⟩⟩; (try first | exact ⟨rfl, _, World.drewN_drewN _ _ _⟩ | exact ⟨rfl, _, Eq.trans (World.drewN_drewN _ _ _) (congrArg (World.drewN _) (Nat.add_assoc _ _ _))⟩))))
  go_loopg [6] k (fun kq v6 w' => ∃ (bd : Int) (ed : Int) (ee : Int) (ef : Int), v6 = .int .i64 bd ∧ Aside0 (spec_Pack.l0 kq a0 a1 bd = some (r1, r2, r3, r4)) ∧ Aside0 (kq ≤ k) ∧ Aside0 (w'.heap[dm]? = some (.cells #[.int .i64 ed, .int .i64 ee, .int .i64 ef] 97 (0, 0))) ∧ Aside0 (Below w.heap.size w w'))
  case atStart => exact ⟨(0), (0), (0), (0), (by first | rfl | (simp; done) | (simp [*]; done)), H', ⟨Nat.le_refl _⟩, ⟨nb bB⟩, ⟨nbe HB⟩⟩
  case round =>
   clear H'; try clear p2
   try clear c4
   obtain ⟨bd, ed, ee, ef, rfl, HA, eg, bB, HB⟩ := hrel
   cases gk with
   | zero => exact absurd HA.out (by simp [spec_Pack.l0])
   | succ k1 =>
    have H := HA.out; clear HA; simp only [spec_Pack.l0] at H
    by_cases c6 : bd ≤ 6
    ·rw [if_pos c6] at H
     have c6b0 : decide (bd ≤ 6) = true := decide_eq_true c6; clear c6
     by_cases c7 : 0 ≤ bd
     ·rw [if_pos c7] at H
      have c7b0 := eq_true c7; have c7b1 : decide (0 ≤ bd) = true := decide_eq_true c7; clear c7; obtain ⟨bC, d4⟩ : ∃ j_ : Int, (shr .i64 a0 bd) = j_ := ⟨_, rfl⟩; replace H : (if (bC) ≤ 63 then (if (shr .i64 (wrap64 ((wrap64 ((wrap64 (a1 - (shl .i64 (bC) bd))) + (shl .i64 1 bd))) - 1)) bd) ≤ 63 then (some (bd, bC, shr .i64 (wrap64 ((wrap64 ((wrap64 (a1 - (shl .i64 (bC) bd))) + (shl .i64 1 bd))) - 1)) bd, true)) else (spec_Pack.l0 k1 a0 a1 (wrap64 (bd + 1)))) else (spec_Pack.l0 k1 a0 a1 (wrap64 (bd + 1)))) = some (r1, r2, r3, r4) := by first | (rw [d4] at H; exact H) | (simp only [d4] at H ⊢; exact H)
      have nV : (a0 / 2 ^ min bd.toNat 64) = bC := d4; have nW : bd ≤ 64 → (a0 / 2 ^ bd.toNat) = bC := shr_small d4; have c9b0 := eq_true (of_decide_eq_true (by first | (with_reducible assumption) | assumption) : 0 ≤ bd); obtain ⟨db, d5⟩ : ∃ j_ : Int, (shl .i64 (bC) bd) = j_ := ⟨_, rfl⟩; replace H : (if (bC) ≤ 63 then (if (shr .i64 (wrap64 ((wrap64 ((wrap64 (a1 - (db))) + (shl .i64 1 bd))) - 1)) bd) ≤ 63 then (some (bd, bC, shr .i64 (wrap64 ((wrap64 ((wrap64 (a1 - (db))) + (shl .i64 1 bd))) - 1)) bd, true)) else (spec_Pack.l0 k1 a0 a1 (wrap64 (bd + 1)))) else (spec_Pack.l0 k1 a0 a1 (wrap64 (bd + 1)))) = some (r1, r2, r3, r4) := by first | (rw [d5] at H; exact H) | (simp only [d5] at H ⊢; exact H)
      have hU : (IntKind.i64.wrap ((bC) * 2 ^ min bd.toNat 64)) = db := d5; have hV : bd ≤ 64 → (IntKind.i64.wrap ((bC) * 2 ^ bd.toNat)) = db := shl_small d5; have nX : (wrap64 ((bC) * 2 ^ min bd.toNat 64)) = db := (i64_w _).symm.trans hU; have nY : bd ≤ 64 → (wrap64 ((bC) * 2 ^ bd.toNat)) = db := fun h_ => (i64_w _).symm.trans (hV h_)
      have c11b0 := eq_true (of_decide_eq_true (by first | (with_reducible assumption) | assumption) : 0 ≤ bd); obtain ⟨dc, d6⟩ : ∃ j_ : Int, (shl .i64 1 bd) = j_ := ⟨_, rfl⟩; replace H : (if (bC) ≤ 63 then (if (shr .i64 (wrap64 ((wrap64 ((wrap64 (a1 - (db))) + (dc))) - 1)) bd) ≤ 63 then (some (bd, bC, shr .i64 (wrap64 ((wrap64 ((wrap64 (a1 - (db))) + (dc))) - 1)) bd, true)) else (spec_Pack.l0 k1 a0 a1 (wrap64 (bd + 1)))) else (spec_Pack.l0 k1 a0 a1 (wrap64 (bd + 1)))) = some (r1, r2, r3, r4) := by first | (rw [d6] at H; exact H) | (simp only [d6] at H ⊢; exact H)
      have gq : (IntKind.i64.wrap (1 * 2 ^ min bd.toNat 64)) = dc := d6; have gr : bd ≤ 64 → (IntKind.i64.wrap (1 * 2 ^ bd.toNat)) = dc := shl_small d6; have nZ : (IntKind.i64.wrap (2 ^ min bd.toNat 64)) = dc := by have h_ := gq; rw [Int.one_mul] at h_; exact h_
      have n0 : bd ≤ 64 → (IntKind.i64.wrap (2 ^ bd.toNat)) = dc := fun hle_ => by have h_ := gr hle_; rw [Int.one_mul] at h_; exact h_
      have n1 : (wrap64 (1 * 2 ^ min bd.toNat 64)) = dc := (i64_w _).symm.trans gq; have n2 : bd ≤ 64 → (wrap64 (1 * 2 ^ bd.toNat)) = dc := fun h_ => (i64_w _).symm.trans (gr h_)
      have c13b0 := eq_true (of_decide_eq_true (by first | (with_reducible assumption) | assumption) : 0 ≤ bd); obtain ⟨dp, d7⟩ : ∃ j_ : Int, (shr .i64 (wrap64 ((wrap64 ((wrap64 (a1 - (db))) + (dc))) - 1)) bd) = j_ := ⟨_, rfl⟩; replace H : (if (bC) ≤ 63 then (if (dp) ≤ 63 then (some (bd, bC, dp, true)) else (spec_Pack.l0 k1 a0 a1 (wrap64 (bd + 1)))) else (spec_Pack.l0 k1 a0 a1 (wrap64 (bd + 1)))) = some (r1, r2, r3, r4) := by first | (rw [d7] at H; exact H) | (simp only [d7] at H ⊢; exact H)
      have n3 : ((wrap64 ((wrap64 ((wrap64 (a1 - (db))) + (dc))) - 1)) / 2 ^ min bd.toNat 64) = dp := d7; have n4 : bd ≤ 64 → ((wrap64 ((wrap64 ((wrap64 (a1 - (db))) + (dc))) - 1)) / 2 ^ bd.toNat) = dp := shr_small d7
      by_cases c15 : (bC) ≤ 63
      ·rw [if_pos c15] at H
       have c15b0 : decide ((bC) ≤ 63) = true := decide_eq_true c15; clear c15
       by_cases c16 : (dp) ≤ 63
       ·rw [if_pos c16] at H
        have c16b0 : decide ((dp) ≤ 63) = true := decide_eq_true c16; clear c16; simp only [Option.some.injEq, Prod.mk.injEq] at H; obtain ⟨rfl, rfl, rfl, rfl⟩ := H; obtain ⟨hN, hO, hQ⟩ := c3e bB; obtain ⟨hR, hS, hT⟩ := z3_ bB; go_wp2
        repeat (go_quiet (fail); try go_wp2)
        refine bodyPost_ret (results_ct rfl _ _ dm 97 #[.int .i64 bd, .int .i64 bC, .int .i64 dp] (0, 0) _ rfl (q3 bB) Try.underlying97 rfl (by kernel_rfl)) rfl ?_; exact ⟨by first | rfl | (simp [errW_none, errW_some] <;> rfl) | (simp only [← d4, ← d5, ← d6, ← d7]; first | rfl | (simp [errW_none, errW_some] <;> rfl)) | (simp [*, errW_none, errW_some] <;> rfl), nbe HB⟩
       ·rw [if_neg c16] at H
        have c16b0 : decide ((dp) ≤ 63) = false := decide_eq_false c16; clear c16; have H' := Aside0.mk H; clear H; go_wp2
        repeat (go_quiet (fail); try go_wp2)
        go_roundg k1
        case measure => have := eg.out; omega
        case rel => exact ⟨(wrap64 (bd + 1)), (ed), (ee), (ef), (by first | rfl | (simp; done) | (simp [*]; done)), H', ⟨by have := eg.out; omega⟩, ⟨nb bB⟩, ⟨nbe HB⟩⟩
      ·rw [if_neg c15] at H
       have c15b0 : decide ((bC) ≤ 63) = false := decide_eq_false c15; clear c15; have H' := Aside0.mk H; clear H; go_wp2
       repeat (go_quiet (fail); try go_wp2)
       go_roundg k1
       case measure => have := eg.out; omega
       case rel => exact ⟨(wrap64 (bd + 1)), (ed), (ee), (ef), (by first | rfl | (simp; done) | (simp [*]; done)), H', ⟨by have := eg.out; omega⟩, ⟨nb bB⟩, ⟨nbe HB⟩⟩
     ·rw [if_neg c7] at H
      exact absurd H (by simp)
    ·rw [if_neg c6] at H
     have c6b0 : decide (bd ≤ 6) = false := decide_eq_false c6; clear c6; simp only [Option.some.injEq, Prod.mk.injEq] at H; obtain ⟨rfl, rfl, rfl, rfl⟩ := H; obtain ⟨n5, n6, n7⟩ := c3e bB; obtain ⟨n8, n9, oa⟩ := z3_ bB; go_wp2
     repeat (go_quiet (fail); try go_wp2)
     refine bodyPost_ret (results_ct rfl _ _ dm 97 #[.int .i64 0, .int .i64 0, .int .i64 0] (0, 0) _ rfl (q3 bB) Try.underlying97 rfl (by kernel_rfl)) rfl ?_; exact ⟨er_, nbe HB⟩
 ·replace c4 := Bool.eq_false_iff.mpr c4
  subst c4; have H1 : (some (0, 0, 0, false)) = some (r1, r2, r3, r4) := by rw [if_neg (show ¬ (false = true) by decide)] at H; exact H
  clear H; have H := H1; clear H1; simp only [Option.some.injEq, Prod.mk.injEq] at H; obtain ⟨rfl, rfl, rfl, rfl⟩ := H
  go_enter Try.func85, Try.ntmps85
  go_wp2_with (first | ((with_reducible refine gate_dst (N := 4) rfl ?_); refine bxe 4 #[.int .i64 0, .int .i64 0, .int .i64 0] 97 ?_; intro dm hg ev hbox hb; have bB := hbox; have d2 := nge HB hg; have d3 := nge HB hg; replace HB := nbs HB hb; clear hb hbox hg) | (go_at_call 74; (with_reducible refine (spec_BoundsOk.calls a0 a1 false _ A3.out).mono ?_); rintro e w' ⟨rfl, ⟨nd, rfl⟩⟩; (try first | exact ⟨rfl, _, World.drewN_drewN _ _ _⟩ | exact ⟨rfl, _, Eq.trans (World.drewN_drewN _ _ _) (congrArg (World.drewN _) (Nat.add_assoc _ _ _))⟩); obtain ⟨gs, gt, gu⟩ := c3e bB; obtain ⟨gv, gw, gx⟩ := z3_ bB))
  repeat (go_quiet (first | ((with_reducible refine gate_dst (N := 4) rfl ?_); refine bxe 4 #[.int .i64 0, .int .i64 0, .int .i64 0] 97 ?_; intro dm hg ev hbox hb; have bB := hbox; have d2 := nge HB hg; have d3 := nge HB hg; replace HB := nbs HB hb; clear hb hbox hg) | (go_at_call 74; (with_reducible refine (spec_BoundsOk.calls a0 a1 false _ A3.out).mono ?_); rintro e w' ⟨rfl, ⟨nd, rfl⟩⟩; (try first | exact ⟨rfl, _, World.drewN_drewN _ _ _⟩ | exact ⟨rfl, _, Eq.trans (World.drewN_drewN _ _ _) (congrArg (World.drewN _) (Nat.add_assoc _ _ _))⟩); obtain ⟨gs, gt, gu⟩ := c3e bB; obtain ⟨gv, gw, gx⟩ := z3_ bB)); try go_wp2_with (first | ((with_reducible refine gate_dst (N := 4) rfl ?_); refine bxe 4 #[.int .i64 0, .int .i64 0, .int .i64 0] 97 ?_; intro dm hg ev hbox hb; have bB := hbox; have d2 := nge HB hg; have d3 := nge HB hg; replace HB := nbs HB hb; clear hb hbox hg) | (go_at_call 74; (with_reducible refine (spec_BoundsOk.calls a0 a1 false _ A3.out).mono ?_); rintro e w' ⟨rfl, ⟨nd, rfl⟩⟩; (try first | exact ⟨rfl, _, World.drewN_drewN _ _ _⟩ | exact ⟨rfl, _, Eq.trans (World.drewN_drewN _ _ _) (congrArg (World.drewN _) (Nat.add_assoc _ _ _))⟩); obtain ⟨gs, gt, gu⟩ := c3e bB; obtain ⟨gv, gw, gx⟩ := z3_ bB)))
  refine bodyPost_ret (results_ct rfl _ _ dm 97 #[.int .i64 0, .int .i64 0, .int .i64 0] (0, 0) _ rfl (q3 bB) Try.underlying97 rfl (by kernel_rfl)) rfl ?_; exact ⟨er_, nbe HB⟩

/-! ### spec_l1Min: function 92 -/
def spec_l1Min.f (a0 : Int) (a1 : Int) : Option (Int) := if a0 < a1 then (some a0) else (some a1)
set_option maxHeartbeats 8000000 in
set_option maxRecDepth 100000 in
theorem spec_l1Min.calls (a0 : Int) (a1 : Int) (r : Int) (w : World) (h : spec_l1Min.f a0 a1 = some r) :
  Calls Try.prog 92 #[.int .i64 a0, .int .i64 a1] w fun e w' => e = .returned (.int .i64 r) ∧ Drawn0 w w' := by
 have H : (if a0 < a1 then (some a0) else (some a1)) = some r := h; clear h
 by_cases c3 : a0 < a1
 ·rw [if_pos c3] at H
  have c3b0 : decide (a0 < a1) = true := decide_eq_true c3; clear c3; obtain rfl := Option.some.inj H
  go_enter Try.func92, Try.ntmps92
  go_wp2
  go_ret
  exact ⟨by first | rfl | (simp; done) | (simp [*]; done), by repeat (first | exact Drawn0.refl _ | apply Drawn0.step)⟩
 ·rw [if_neg c3] at H
  have c3b0 : decide (a0 < a1) = false := decide_eq_false c3; clear c3; obtain rfl := Option.some.inj H
  go_enter Try.func92, Try.ntmps92
  go_wp2
  go_ret
  exact ⟨by first | rfl | (simp; done) | (simp [*]; done), by repeat (first | exact Drawn0.refl _ | apply Drawn0.step)⟩

end Go.Proofs.Ytpcladboobfkhaa.PFnWork
