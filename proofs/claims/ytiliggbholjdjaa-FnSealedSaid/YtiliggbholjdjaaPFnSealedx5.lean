-- Written by a program of this session (wip/patch.py turns a copy of the kit's print): the functions that the law reaches, and their walks.
import Derived.Test.YtiliggbholjdjaaPFnSealedx0
import Derived.Test.YtiliggbholjdjaaPFnSealedx4
import Derived.Test.YtiliggbholjdjaaCFnSealed
namespace Go.Proofs.Ytiliggbholjdjaa.PFnSealed
open Go.RowKit Go.Proofs.YtiliggbholjdjaaW.PrintWords Go.Proofs.YtiliggbholjdjaaW.PrintLast Go.Proofs.YtiliggbholjdjaaW.PrintMore Go.Proofs.YtiliggbholjdjaaW.Mine
attribute [local go_sem] max2_int min2_int max_two min_two max_three min_three max_four min_four   -- for this text's walks alone
set_option linter.unusedVariables false
set_option linter.unusedSimpArgs false

/-! ### spec_l1PickInt: function 87 -/
def spec_l1PickInt.f (s0_0 : List Int) (s0_1 : Int) (s0_2 : Int) (l1 : List Int) : Option (Int × Int × Int) := (spec_l1Below.f s0_0 s0_1 s0_2 (l1.length : Int)).bind fun bE => (if 0 ≤ bE.1 then (if bE.1 < (l1.length : Int) then (some (rd l1 bE.1, bE.2.1, bE.2.2)) else (none)) else (none))
set_option maxHeartbeats 8000000 in
set_option maxRecDepth 100000 in
theorem spec_l1PickInt.calls (g : Nat) (s0_0 : List Int) (s0_1 : Int) (s0_2 : Int) (A1 : Option Addr) (c1 : Nat) (l1 : List Int) (r1 : Int) (r2 : Int) (r3 : Int) (w0 w : World) (hI : IsS90 w0 w g s0_0 s0_1 s0_2) (hB : Below w0.heap.size w0 w) (hr1 : Kd.C (Kd.int .i64) w A1 l1.length l1) (hc1 : l1.length ≤ c1) (hf1 : ∀ ad, A1 = some ad → 0 < l1.length → ad.block ≠ g) (h : spec_l1PickInt.f s0_0 s0_1 s0_2 l1 = some (r1, r2, r3)) :
  Calls Try.prog 87 #[.pointer (some ⟨g, 0, none⟩), .slice A1 l1.length c1] w fun e w' => e = .returned (.int .i64 r1) ∧ IsS90 w0 w' g s0_0 r2 r3 ∧ Below w0.heap.size w0 w' ∧ KeepBut w w' g none := by
 have ed := Aside0.mk hr1; have et := Aside0.mk hc1; clear hr1 hc1; have HI0 := Aside0.mk hI; have HK := Aside0.mk (KeepBut.refl w g none); have HL := Aside0.mk hB.size; clear hI; have HW0 := Aside0.mk hB.size; have HB := Aside0.mk hB; clear hB; have H : ((spec_l1Below.f s0_0 s0_1 s0_2 (l1.length : Int)).bind fun bE => (if 0 ≤ bE.1 then (if bE.1 < (l1.length : Int) then (some (rd l1 bE.1, bE.2.1, bE.2.2)) else (none)) else (none))) = some (r1, r2, r3) := h; clear h; replace H := Option.bind_eq_some_iff.mp H; obtain ⟨⟨bF, dt, du⟩, A30, H⟩ := H; replace H : (if 0 ≤ bF then (if bF < (l1.length : Int) then (some (rd l1 bF, dt, du)) else (none)) else (none)) = some (r1, r2, r3) := H; have A3 := Aside0.mk A30; clear A30
 by_cases c4 : 0 ≤ bF
 ·rw [if_pos c4] at H
  have c4b0 : decide (0 ≤ bF) = true := decide_eq_true c4; clear c4
  by_cases c5 : bF < (l1.length : Int)
  ·rw [if_pos c5] at H
   have c5b0 : decide (bF < (l1.length : Int)) = true := decide_eq_true c5; clear c5; simp only [Option.some.injEq, Prod.mk.injEq] at H; obtain ⟨rfl, rfl, rfl⟩ := H
   go_enter Try.func87, Try.ntmps87
   go_wp2_with (first | ((with_reducible refine gate_callee (f := 86) rfl ?_); refine goesM (some 9) rfl rfl Try.func86 (by kernel_rfl) rfl #[.pointer (some ⟨g, 0, none⟩), .int .i64 (l1.length : Int)] rfl ?_; (with_reducible refine (spec_l1Below.calls g s0_0 s0_1 s0_2 (l1.length : Int) bF dt du w0 _ ?side1 ?side2 A3.out).mono ?_); (case side1 => exact IsS90.n); (case side2 => exact IsS90.nb); rintro e w6 ⟨rfl, hi, hb, hk⟩; refine ⟨_, rfl, ?_⟩; replace HK := Aside0.mk (KeepBut.trans (nK HK) hk (.inl rfl)); replace HB := Aside0.mk (hb); replace HI0 := Aside0.mk (hi); (try clear hb); have p204 : 0 ≤ (bF : Int) := of_decide_eq_true (by first | (with_reducible assumption) | assumption); have q204 : bF < (l1.length : Int) := of_decide_eq_true (by first | (with_reducible assumption) | assumption); obtain ⟨ee, e204, dv⟩ := Kd.at_int ed.out bF p204 q204; cases e204; replace dv := keep_cell HK.out dv (by first | (rw [add_block]; exact hf1 _ rfl (by omega)) | exact hf1 _ rfl (by omega) | exact hf1 ee rfl (by omega)); replace p204 := eq_true p204; replace q204 := eq_true q204))
   go_ret
   exact ⟨er_, IsS90.n, IsS90.nb, nK HK⟩
  ·rw [if_neg c5] at H
   exact absurd H (by simp)
 ·rw [if_neg c4] at H
  exact absurd H (by simp)

/-! ### spec_l1Once: function 75 -/
def spec_l1Once.f (s0_0 : List Int) (s0_1 : Int) (s0_2 : Int) (a1 : Int) : Option (Bool × Int × Int) := (spec_l1Below.f s0_0 s0_1 s0_2 a1).bind fun bL => (some ((bL.1 == 0), bL.2.1, bL.2.2))
set_option maxHeartbeats 8000000 in
set_option maxRecDepth 100000 in
theorem spec_l1Once.calls (g : Nat) (s0_0 : List Int) (s0_1 : Int) (s0_2 : Int) (a1 : Int) (r1 : Bool) (r2 : Int) (r3 : Int) (w0 w : World) (hI : IsS90 w0 w g s0_0 s0_1 s0_2) (hB : Below w0.heap.size w0 w) (h : spec_l1Once.f s0_0 s0_1 s0_2 a1 = some (r1, r2, r3)) :
  Calls Try.prog 75 #[.pointer (some ⟨g, 0, none⟩), .int .i64 a1] w fun e w' => e = .returned (.bool r1) ∧ IsS90 w0 w' g s0_0 r2 r3 ∧ Below w0.heap.size w0 w' ∧ KeepBut w w' g none := by
 have HI0 := Aside0.mk hI; have HK := Aside0.mk (KeepBut.refl w g none); have HL := Aside0.mk hB.size; clear hI; have HW0 := Aside0.mk hB.size; have HB := Aside0.mk hB; clear hB; have H : ((spec_l1Below.f s0_0 s0_1 s0_2 a1).bind fun bL => (some ((bL.1 == 0), bL.2.1, bL.2.2))) = some (r1, r2, r3) := h; clear h; replace H := Option.bind_eq_some_iff.mp H; obtain ⟨⟨dw, dx, dy⟩, A30, H⟩ := H; replace H : (some ((dw == 0), dx, dy)) = some (r1, r2, r3) := H; have A3 := Aside0.mk A30; clear A30; simp only [Option.some.injEq, Prod.mk.injEq] at H; obtain ⟨rfl, rfl, rfl⟩ := H
 go_enter Try.func75, Try.ntmps75
 go_wp2_with (first | ((with_reducible refine gate_callee (f := 86) rfl ?_); refine goesM (some 7) rfl rfl Try.func86 (by kernel_rfl) rfl #[.pointer (some ⟨g, 0, none⟩), .int .i64 a1] rfl ?_; (with_reducible refine (spec_l1Below.calls g s0_0 s0_1 s0_2 a1 dw dx dy w0 _ ?side1 ?side2 A3.out).mono ?_); (case side1 => exact IsS90.n); (case side2 => exact IsS90.nb); rintro e w4 ⟨rfl, hi, hb, hk⟩; refine ⟨_, rfl, ?_⟩; replace HK := Aside0.mk (KeepBut.trans (nK HK) hk (.inl rfl)); replace HB := Aside0.mk (hb); replace HI0 := Aside0.mk (hi); (try clear hb)))
 go_ret
 exact ⟨er_, IsS90.n, IsS90.nb, nK HK⟩

/-! ### spec_Root: function 100 -/
def spec_Root.f  : Option (Int × Int × Int × Int) := some (0, 4096, 63, 0)
set_option maxHeartbeats 8000000 in
set_option maxRecDepth 100000 in
theorem spec_Root.calls  (r1 : Int) (r2 : Int) (r3 : Int) (r4 : Int) (w : World) (h : spec_Root.f  = some (r1, r2, r3, r4)) :
  Calls Try.prog 100 #[] w fun e w' => e = .returned (.agg #[.int .i64 r1, .int .i64 r2, .int .i64 r3, .int .i64 r4]) ∧ Below w.heap.size w w' := by
 have hu25 := Try.underlying25; have HB := Aside0.mk (Below.refl w.heap.size w); have H : (some (0, 4096, 63, 0)) = some (r1, r2, r3, r4) := h; clear h; simp only [Option.some.injEq, Prod.mk.injEq] at H; obtain ⟨rfl, rfl, rfl, rfl⟩ := H
 go_enter Try.func100, Try.ntmps100
 go_wp2_with (first | ((with_reducible refine gate_dst (N := 0) rfl ?_); refine bxe 0 #[.int .i64 0, .int .i64 0, .int .i64 0, .int .i64 0] 25 ?_; intro ef hg w1 hbox hb; have db := hbox; have eu := nge HB hg; have ev := nge HB hg; replace HB := nbs HB hb; clear hb hbox hg; obtain ⟨ew, ex, ey, ez⟩ := c4e db; obtain ⟨eA, eB, eC, eD⟩ := z4_ db))
 refine bodyPost_ret (results_cell_row rfl _ _ ef 25 #[.int .i64 0, .int .i64 4096, .int .i64 63, .int .i64 0] (0, 0) _ rfl (q4 db) Try.underlying25 rfl (by kernel_rfl)) rfl ?_; exact ⟨er_, nbe HB⟩

/-! ### spec_l2DrawRight: function 97 -/
mutual
def spec_l2DrawRight.j0 : Nat → List Int → Int → Int → Int → Int → Int → Int → Option (Int × Int × Int × Int × Int × Int)
 | 0, _, _, _, _, _, _, _ => none
 | k + 1, bM, dc, dd, bU, bV, b3, b4 => (spec_l1Once.f bM dc dd 2).bind fun bW => (if bW.1 = true then ((spec_l1Below.f bM bW.2.1 bW.2.2 64).bind fun bG => (spec_l2DrawRight.j1 k bM bG.2.1 bG.2.2 bU bV bG.1 b4)) else (spec_l2DrawRight.j1 k bM bW.2.1 bW.2.2 bU bV b3 b4))
def spec_l2DrawRight.j1 : Nat → List Int → Int → Int → Int → Int → Int → Int → Option (Int × Int × Int × Int × Int × Int)
 | 0, _, _, _, _, _, _, _ => none
 | k + 1, bM, dc, dd, bU, bV, b3, b4 => (spec_l1Once.f bM dc dd 5).bind fun bX => (if bX.1 = true then ((spec_l1Below.f bM bX.2.1 bX.2.2 7).bind fun bH => (some (bU, bV, b3, wrap64 (1 + bH.1), bH.2.1, bH.2.2))) else (some (bU, bV, b3, b4, bX.2.1, bX.2.2)))
end
def spec_l2DrawRight.f (k : Nat) (s0_0 : List Int) (s0_1 : Int) (s0_2 : Int) : Option (Int × Int × Int × Int × Int × Int) := (spec_Root.f).bind fun bh => ((spec_l1Below.f s0_0 s0_1 s0_2 4).bind fun bf => (if bf.1 = 0 then ((spec_l1Below.f s0_0 bf.2.1 bf.2.2 30).bind fun bm => ((spec_l1Below.f s0_0 bm.2.1 bm.2.2 33).bind fun bn => (spec_l2DrawRight.j0 k s0_0 bn.2.1 bn.2.2 bm.1 (wrap64 (bm.1 + bn.1)) bh.2.2.1 bh.2.2.2))) else (if bf.1 = 1 then ((spec_l1Below.f s0_0 bf.2.1 bf.2.2 20).bind fun bo => ((spec_l1Below.f s0_0 bo.2.1 bo.2.2 9).bind fun bp => (spec_l2DrawRight.j0 k s0_0 bp.2.1 bp.2.2 (wrap64 (64 * bo.1)) (wrap64 ((wrap64 (64 * bo.1)) + (wrap64 (64 * bp.1)))) bh.2.2.1 bh.2.2.2))) else (if bf.1 = 2 then (spec_l2DrawRight.j0 k s0_0 bf.2.1 bf.2.2 bh.1 32 bh.2.2.1 bh.2.2.2) else (spec_l2DrawRight.j0 k s0_0 bf.2.1 bf.2.2 bh.1 bh.2.1 bh.2.2.1 bh.2.2.2)))))
theorem spec_l2DrawRight.mono_l : ∀ k, (∀ y0 y1 y2 y3 y4 y5 y6, LeO (spec_l2DrawRight.j0 k y0 y1 y2 y3 y4 y5 y6) (spec_l2DrawRight.j0 (k + 1) y0 y1 y2 y3 y4 y5 y6)) ∧ (∀ y0 y1 y2 y3 y4 y5 y6, LeO (spec_l2DrawRight.j1 k y0 y1 y2 y3 y4 y5 y6) (spec_l2DrawRight.j1 (k + 1) y0 y1 y2 y3 y4 y5 y6))
 | 0 => ⟨fun _ _ _ _ _ _ _ r h => by simp [spec_l2DrawRight.j0] at h, fun _ _ _ _ _ _ _ r h => by simp [spec_l2DrawRight.j1] at h⟩
 | k + 1 => by
  obtain ⟨ih0, ih1⟩ := spec_l2DrawRight.mono_l k; refine ⟨?_, ?_⟩
  ·intro y0 y1 y2 y3 y4 y5 y6
   unfold spec_l2DrawRight.j0
   repeat' first
   | (with_reducible exact ih0 _ _ _ _ _ _ _)
   | (with_reducible exact ih1 _ _ _ _ _ _ _)
   | (with_reducible exact LeO.refl _)
   | (with_reducible exact LeO.none _)
   | (with_reducible refine LeO.ite ?_ ?_)
   | (with_reducible refine LeO.bind ?_ (fun _ => ?_))
   | exact ih0 _ _ _ _ _ _ _
   | exact ih1 _ _ _ _ _ _ _
   | exact LeO.none _
   | refine LeO.ite ?_ ?_
   | refine LeO.bind ?_ (fun _ => ?_)
  ·intro y0 y1 y2 y3 y4 y5 y6
   unfold spec_l2DrawRight.j1
   repeat' first
   | (with_reducible exact ih0 _ _ _ _ _ _ _)
   | (with_reducible exact ih1 _ _ _ _ _ _ _)
   | (with_reducible exact LeO.refl _)
   | (with_reducible exact LeO.none _)
   | (with_reducible refine LeO.ite ?_ ?_)
   | (with_reducible refine LeO.bind ?_ (fun _ => ?_))
   | exact ih0 _ _ _ _ _ _ _
   | exact ih1 _ _ _ _ _ _ _
   | exact LeO.none _
   | refine LeO.ite ?_ ?_
   | refine LeO.bind ?_ (fun _ => ?_)
theorem spec_l2DrawRight.mono : ∀ a0 a1 a2 k, LeO (spec_l2DrawRight.f k a0 a1 a2) (spec_l2DrawRight.f (k + 1) a0 a1 a2) := by
 intro a0 a1 a2 k; obtain ⟨ih0, ih1⟩ := spec_l2DrawRight.mono_l k
 unfold spec_l2DrawRight.f
 repeat' first
   | (with_reducible exact ih0 _ _ _ _ _ _ _)
   | (with_reducible exact ih1 _ _ _ _ _ _ _)
   | (with_reducible exact LeO.refl _)
   | (with_reducible exact LeO.none _)
   | (with_reducible refine LeO.ite ?_ ?_)
   | (with_reducible refine LeO.bind ?_ (fun _ => ?_))
   | exact ih0 _ _ _ _ _ _ _
   | exact ih1 _ _ _ _ _ _ _
   | exact LeO.none _
   | refine LeO.ite ?_ ?_
   | refine LeO.bind ?_ (fun _ => ?_)
def spec_l2DrawRight.T8 : Bool × List (List Nat × List Nat) := (true, [([], []), ([0], [0]), ([], []), ([2], [2]), ([3], [3]), ([1, 4], [1, 4]), ([0, 1, 2, 3, 4, 5], []), ([6, 5, 3, 0, 1, 2, 3, 4, 5], [5, 6])])
def spec_l2DrawRight.B8 : List Nat := [0, 1, 0, 4, 12, 31, 63, 127]
theorem spec_l2DrawRight.tab8 : rtab .any (opsOf Try.f97 8) = spec_l2DrawRight.T8 := by kernel_rfl
theorem spec_l2DrawRight.bits8 : waitsOk spec_l2DrawRight.T8.2 spec_l2DrawRight.B8 = true := by kernel_rfl
set_option maxHeartbeats 8000000 in
set_option maxRecDepth 100000 in
theorem spec_l2DrawRight.calls (k : Nat) (g : Nat) (s0_0 : List Int) (s0_1 : Int) (s0_2 : Int) (r1 : Int) (r2 : Int) (r3 : Int) (r4 : Int) (r5 : Int) (r6 : Int) (w0 w : World) (hI : IsS90 w0 w g s0_0 s0_1 s0_2) (hB : Below w0.heap.size w0 w) (h : spec_l2DrawRight.f k s0_0 s0_1 s0_2 = some (r1, r2, r3, r4, r5, r6)) :
  Calls Try.prog 97 #[.pointer (some ⟨g, 0, none⟩)] w fun e w' => e = .returned (.agg #[.int .i64 r1, .int .i64 r2, .int .i64 r3, .int .i64 r4]) ∧ IsS90 w0 w' g s0_0 r5 r6 ∧ Below w0.heap.size w0 w' ∧ KeepBut w w' g none := by
 have hu25 := Try.underlying25; have HI0 := Aside0.mk hI; have HK := Aside0.mk (KeepBut.refl w g none); have HL := Aside0.mk hB.size; clear hI; have HW0 := Aside0.mk hB.size; have HB := Aside0.mk hB; clear hB; have H : ((spec_Root.f).bind fun bh => ((spec_l1Below.f s0_0 s0_1 s0_2 4).bind fun bf => (if bf.1 = 0 then ((spec_l1Below.f s0_0 bf.2.1 bf.2.2 30).bind fun bm => ((spec_l1Below.f s0_0 bm.2.1 bm.2.2 33).bind fun bn => (spec_l2DrawRight.j0 k s0_0 bn.2.1 bn.2.2 bm.1 (wrap64 (bm.1 + bn.1)) bh.2.2.1 bh.2.2.2))) else (if bf.1 = 1 then ((spec_l1Below.f s0_0 bf.2.1 bf.2.2 20).bind fun bo => ((spec_l1Below.f s0_0 bo.2.1 bo.2.2 9).bind fun bp => (spec_l2DrawRight.j0 k s0_0 bp.2.1 bp.2.2 (wrap64 (64 * bo.1)) (wrap64 ((wrap64 (64 * bo.1)) + (wrap64 (64 * bp.1)))) bh.2.2.1 bh.2.2.2))) else (if bf.1 = 2 then (spec_l2DrawRight.j0 k s0_0 bf.2.1 bf.2.2 bh.1 32 bh.2.2.1 bh.2.2.2) else (spec_l2DrawRight.j0 k s0_0 bf.2.1 bf.2.2 bh.1 bh.2.1 bh.2.2.1 bh.2.2.2)))))) = some (r1, r2, r3, r4, r5, r6) := h; clear h; replace H := Option.bind_eq_some_iff.mp H; obtain ⟨⟨bA, bl, bg, bc⟩, A20, H⟩ := H; replace H : ((spec_l1Below.f s0_0 s0_1 s0_2 4).bind fun bf => (if bf.1 = 0 then ((spec_l1Below.f s0_0 bf.2.1 bf.2.2 30).bind fun bm => ((spec_l1Below.f s0_0 bm.2.1 bm.2.2 33).bind fun bn => (spec_l2DrawRight.j0 k s0_0 bn.2.1 bn.2.2 bm.1 (wrap64 (bm.1 + bn.1)) bg bc))) else (if bf.1 = 1 then ((spec_l1Below.f s0_0 bf.2.1 bf.2.2 20).bind fun bo => ((spec_l1Below.f s0_0 bo.2.1 bo.2.2 9).bind fun bp => (spec_l2DrawRight.j0 k s0_0 bp.2.1 bp.2.2 (wrap64 (64 * bo.1)) (wrap64 ((wrap64 (64 * bo.1)) + (wrap64 (64 * bp.1)))) bg bc))) else (if bf.1 = 2 then (spec_l2DrawRight.j0 k s0_0 bf.2.1 bf.2.2 bA 32 bg bc) else (spec_l2DrawRight.j0 k s0_0 bf.2.1 bf.2.2 bA bl bg bc))))) = some (r1, r2, r3, r4, r5, r6) := H; have A2 := Aside0.mk A20; clear A20; replace H := Option.bind_eq_some_iff.mp H; obtain ⟨⟨bq, bI, bJ⟩, A30, H⟩ := H; replace H : (if bq = 0 then ((spec_l1Below.f s0_0 bI bJ 30).bind fun bm => ((spec_l1Below.f s0_0 bm.2.1 bm.2.2 33).bind fun bn => (spec_l2DrawRight.j0 k s0_0 bn.2.1 bn.2.2 bm.1 (wrap64 (bm.1 + bn.1)) bg bc))) else (if bq = 1 then ((spec_l1Below.f s0_0 bI bJ 20).bind fun bo => ((spec_l1Below.f s0_0 bo.2.1 bo.2.2 9).bind fun bp => (spec_l2DrawRight.j0 k s0_0 bp.2.1 bp.2.2 (wrap64 (64 * bo.1)) (wrap64 ((wrap64 (64 * bo.1)) + (wrap64 (64 * bp.1)))) bg bc))) else (if bq = 2 then (spec_l2DrawRight.j0 k s0_0 bI bJ bA 32 bg bc) else (spec_l2DrawRight.j0 k s0_0 bI bJ bA bl bg bc)))) = some (r1, r2, r3, r4, r5, r6) := H; have A3 := Aside0.mk A30; clear A30; have de := Aside0.mk H; clear H
 go_enter Try.func97, Try.ntmps97
 go_upto_block 0 with (first | ((with_reducible refine gate_dst (N := 2) rfl ?_); refine bxe 2 #[.int .i64 0, .int .i64 0, .int .i64 0, .int .i64 0] 25 ?_; intro bk hg w5 hbox hb; have bv := Aside0.mk (IsS90.below (IsS90.n) hb); have bw := Aside0.mk (KeepBut.trans (nK HK) (KeepBut.of_below hb g none) (.inl rfl)); have bx := Aside0.mk (below_step (IsS90.nb) hb); have bz := hbox; have bB := Aside0.mk ((by rw [hg]; exact (keep_size (w := w) (g := g) (row := none) (nK HK)) : w.heap.size ≤ bk)); have bY := Aside0.mk ((Nat.le_trans HW0.out (by rw [hg]; exact (keep_size (w := w) (g := g) (row := none) (nK HK)) : w.heap.size ≤ bk) : w0.heap.size ≤ bk)); have bZ := Aside0.mk ((by rw [hg]; exact Nat.ne_of_lt (IsS90.lt (show IsS90 w0 _ g s0_0 s0_1 s0_2 from IsS90.n)) : g ≠ bk)); have b0 := Aside0.mk ((by rw [hg]; exact Nat.ne_of_gt (IsS90.lt (show IsS90 w0 _ g s0_0 s0_1 s0_2 from IsS90.n)) : bk ≠ g)); clear HI0 HK HB; have HI0 := bv; have HK := bw; have HB := bx; have bb := bz; have eE := bB; have eF := bY; have dz := bZ; have bD := b0; clear bv bw bx bz bB bY bZ b0; clear hb hbox hg) | ((with_reducible refine gate_callee (f := 100) rfl ?_); refine goesM (some 4) rfl rfl Try.func100 (by kernel_rfl) rfl #[] rfl ?_; (with_reducible refine (spec_Root.calls  bA bl bg bc _ A2.out).mono ?_); rintro e w6 ⟨rfl, hb⟩; refine ⟨_, rfl, ?_⟩; have bv := Aside0.mk (IsS90.below (IsS90.n) hb); have bw := nblk bb hb; have bx := Aside0.mk (KeepBut.trans (nK HK) (KeepBut.of_below hb g none) (.inl rfl)); have bz := Aside0.mk (below_step (IsS90.nb) hb); clear HI0 bb HK HB; have HI0 := bv; have bb := bw; have HK := bx; have HB := bz; clear bv bw bx bz; (try clear hb)) | ((with_reducible refine gate_dst (N := 3) rfl ?_); refine bxe 3 #[.int .i64 0, .int .i64 0, .int .i64 0, .int .i64 0] 25 ?_; intro bd hg w7 hbox hb; have bv := Aside0.mk (IsS90.below (IsS90.n) hb); have bw := nblk bb hb; have bx := Aside0.mk (KeepBut.trans (nK HK) (KeepBut.of_below hb g none) (.inl rfl)); have bz := Aside0.mk (below_step (IsS90.nb) hb); have bB := hbox; have bY := Aside0.mk ((by rw [hg]; exact (keep_size (w := w) (g := g) (row := none) (nK HK)) : w.heap.size ≤ bd)); have bZ := Aside0.mk ((Nat.le_trans HW0.out (by rw [hg]; exact (keep_size (w := w) (g := g) (row := none) (nK HK)) : w.heap.size ≤ bd) : w0.heap.size ≤ bd)); have b0 := nlt bb hg; have dA := ngt bb hg; have dB := Aside0.mk ((by rw [hg]; exact Nat.ne_of_lt (IsS90.lt (show IsS90 w0 _ g s0_0 s0_1 s0_2 from IsS90.n)) : g ≠ bd)); have dC := Aside0.mk ((by rw [hg]; exact Nat.ne_of_gt (IsS90.lt (show IsS90 w0 _ g s0_0 s0_1 s0_2 from IsS90.n)) : bd ≠ g)); clear HI0 bb HK HB; have HI0 := bv; have bb := bw; have HK := bx; have HB := bz; have ba := bB; have eG := bY; have eH := bZ; have br := b0; have bK := dA; have bN := dB; have bs := dC; clear bv bw bx bz bB bY bZ b0 dA dB dC; clear hb hbox hg; have eI := bK.out; have eJ := br.out; have eK := bs.out; have eL := bN.out; obtain ⟨dD, dE, dF, dG⟩ := c4e ba; obtain ⟨dH, dI, dJ, dK⟩ := z4_ ba) | ((with_reducible refine gate_callee (f := 86) rfl ?_); refine goesM (some 6) rfl rfl Try.func86 (by kernel_rfl) rfl #[.pointer (some ⟨g, 0, none⟩), .int .i64 4] rfl ?_; (with_reducible refine (spec_l1Below.calls g s0_0 s0_1 s0_2 4 bq bI bJ w0 _ ?side1 ?side2 A3.out).mono ?_); (case side1 => exact IsS90.n); (case side2 => exact IsS90.nb); rintro e eM ⟨rfl, hi, hb, hk⟩; refine ⟨_, rfl, ?_⟩; replace bb := Aside0.mk (KeepBut.blk hk (g' := bk) (o := .cells #[.int .i64 0, .int .i64 0, .int .i64 0, .int .i64 0] 25 (0, 0)) (k4_ br.out (nb bb)) bD.out (by simp)); replace ba := Aside0.mk (KeepBut.blk hk (g' := bd) (o := .cells #[.int .i64 bA, .int .i64 bl, .int .i64 bg, .int .i64 bc] 25 (0, 0)) (q4 ba) bs.out (by simp)); replace HK := Aside0.mk (KeepBut.trans (nK HK) hk (.inl rfl)); replace HB := Aside0.mk (hb); replace HI0 := Aside0.mk (hi); (try clear hb)))
 (try simp only [Act.put, List.setIfInBounds_toArray, List.set_cons_zero, List.set_cons_succ])
 go_cut [] (fun wc => ∃ (kq : Nat) (b5 : Int) (b6 : Int) (bi : Int) (bj : Int), Aside0 (spec_l2DrawRight.j0 kq s0_0 b5 b6 bi bj bg bc = some (r1, r2, r3, r4, r5, r6)) ∧ Aside0 (kq ≤ k) ∧ Aside0 (wc.heap[bk]? = some (.cells #[.int .i64 0, .int .i64 0, .int .i64 0, .int .i64 0] 25 (0, 0))) ∧ Aside0 (wc.heap[bd]? = some (.cells #[.int .i64 bi, .int .i64 bj, .int .i64 bg, .int .i64 bc] 25 (0, 0))) ∧ Aside0 (IsS90 w0 wc g s0_0 b5 b6) ∧ Aside0 (KeepBut w wc g none) ∧ Aside0 (Below w0.heap.size w0 wc))
 case first =>
  have H := de.out; clear de
  by_cases c12 : bq = 0
  ·rw [if_pos c12] at H
   have c12b0 : (bq == 0) = true := beq_iff_eq.mpr c12; have c12b1 : (bq != 0) = false := bne_eq_false_iff_eq.mpr c12; clear c12; (first | rw [c12b0] | (simp only [i64_w, i32_w]; rw [c12b0]) | skip); replace H := Option.bind_eq_some_iff.mp H; obtain ⟨⟨bt, b7, b8⟩, A130, H⟩ := H; replace H : ((spec_l1Below.f s0_0 b7 b8 33).bind fun bn => (spec_l2DrawRight.j0 k s0_0 bn.2.1 bn.2.2 bt (wrap64 (bt + bn.1)) bg bc)) = some (r1, r2, r3, r4, r5, r6) := H; have A13 := Aside0.mk A130; clear A130; replace H := Option.bind_eq_some_iff.mp H; obtain ⟨⟨df, dg, dh⟩, A140, H⟩ := H; replace H : (spec_l2DrawRight.j0 k s0_0 dg dh bt (wrap64 (bt + df)) bg bc) = some (r1, r2, r3, r4, r5, r6) := H; have A14 := Aside0.mk A140; clear A140; have H' := Aside0.mk H; clear H
   try go_wp2_with (first | ((with_reducible refine gate_callee (f := 86) rfl ?_); refine goesM (some 10) rfl rfl Try.func86 (by kernel_rfl) rfl #[.pointer (some ⟨g, 0, none⟩), .int .i64 30] rfl ?_; (with_reducible refine (spec_l1Below.calls g s0_0 bI bJ 30 bt b7 b8 w0 _ ?side1 ?side2 A13.out).mono ?_); (case side1 => exact IsS90.n); (case side2 => exact IsS90.nb); rintro e bS ⟨rfl, hi, hb, hk⟩; refine ⟨_, rfl, ?_⟩; replace bb := Aside0.mk (KeepBut.blk hk (g' := bk) (o := .cells #[.int .i64 0, .int .i64 0, .int .i64 0, .int .i64 0] 25 (0, 0)) (nb bb) bD.out (by simp)); replace ba := Aside0.mk (KeepBut.blk hk (g' := bd) (o := .cells #[.int .i64 bA, .int .i64 bl, .int .i64 bg, .int .i64 bc] 25 (0, 0)) (nb ba) bs.out (by simp)); replace HK := Aside0.mk (KeepBut.trans (nK HK) hk (.inl rfl)); replace HB := Aside0.mk (hb); replace HI0 := Aside0.mk (hi); (try clear hb); have eN := bK.out; have eO := br.out; have eP := bs.out; have eQ := bN.out; obtain ⟨dL, dM, dN, dO⟩ := c4e ba; obtain ⟨dP, dQ, dR, dS⟩ := z4_ ba))
   have bv : Aside0 ((bS.setCell ⟨bd, 0, none⟩ (.int .i64 bt)).heap[bk]? = some (.cells #[.int .i64 0, .int .i64 0, .int .i64 0, .int .i64 0] 25 (0, 0))) := ⟨k1_ br.out (nb bb)⟩; have bw : Aside0 ((bS.setCell ⟨bd, 0, none⟩ (.int .i64 bt)).heap[bd]? = some (.cells #[.int .i64 bt, .int .i64 bl, .int .i64 bg, .int .i64 bc] 25 (0, 0))) := ⟨by (with_reducible repeat (first | refine blk_drewN ?_ _ | refine blk_drew ?_ | refine blk_alloc ?_ _)); refine blk_put (cs := #[.int .i64 bA, .int .i64 bl, .int .i64 bg, .int .i64 bc]) ?_ 0 _ rfl; (with_reducible repeat (first | refine blk_drewN ?_ _ | refine blk_drew ?_ | refine blk_alloc ?_ _)); exact ba.out⟩; have bx : Aside0 (IsS90 w0 (bS.setCell ⟨bd, 0, none⟩ (.int .i64 bt)) g s0_0 b7 b8) := ⟨IsS90.n⟩; have bz : Aside0 (KeepBut w (bS.setCell ⟨bd, 0, none⟩ (.int .i64 bt)) g none) := ⟨nK HK⟩; have bB : Aside0 (Below w0.heap.size w0 (bS.setCell ⟨bd, 0, none⟩ (.int .i64 bt))) := ⟨IsS90.nb⟩; (try clear bb); (try clear ba); (try clear HI0); (try clear HK); (try clear HB); generalize (bS.setCell ⟨bd, 0, none⟩ (.int .i64 bt)) = eg at bv bw bx bz bB ⊢; have bb := bv; have ba := bw; have HI0 := bx; have HK := bz; have HB := bB; clear bv bw bx bz bB; replace bb := Aside0.mk (blk_drew bb.out); replace ba := Aside0.mk (blk_drew ba.out); replace HI0 := Aside0.mk (IsS90.drew HI0.out); replace HK := Aside0.mk (keep_drew HK.out); replace HB := Aside0.mk (below_drew1 HB.out); refine start_ (n := 7) (S := fun w' => w'.cell? ⟨bd, 0, none⟩ = some (.int .i64 bt) ∧ w'.cell? ⟨bd, 1, none⟩ = some (.int .i64 bl) ∧ w'.cell? ⟨bd, 2, none⟩ = some (.int .i64 bg) ∧ w'.cell? ⟨bd, 3, none⟩ = some (.int .i64 bc)) (ds := [6]) #[false, false, false, false, false, false, false] (by kernel_rfl) rfl rfl (c4e ba) (fun hHeld => ?_); generalize eg.drew = eR at bb ba HI0 HK HB hHeld ⊢; refine rPk 0 12 #[true, false, false, false, false, false, false] ?_; refine rPk 2 14 #[true, false, true, false, false, false, false] ?_; refine rTk hHeld 1 13 #[true, true, true, false, false, false, false] ?_; refine one_ (i := 3) (N := some 15) #[true, true, true, true, false, false, false] rfl rfl (by kernel_rfl) (by decide) (fun K hK => ?_); refine goesR Try.func86 (by kernel_rfl) rfl #[.pointer (some ⟨g, 0, none⟩), .int .i64 33] (by rfl) rfl rfl ?_; (with_reducible refine (spec_l1Below.calls g s0_0 b7 b8 33 df dg dh w0 _ ?side1 ?side2 A14.out).mono ?_); (case side1 => exact IsS90.n); (case side2 => exact IsS90.nb); rintro e eh ⟨rfl, hi, hb, hk⟩; refine ⟨_, rfl, ?_⟩; replace bb := Aside0.mk (KeepBut.blk hk (g' := bk) (o := .cells #[.int .i64 0, .int .i64 0, .int .i64 0, .int .i64 0] 25 (0, 0)) (nb bb) bD.out (by simp)); replace ba := Aside0.mk (KeepBut.blk hk (g' := bd) (o := .cells #[.int .i64 bt, .int .i64 bl, .int .i64 bg, .int .i64 bc] 25 (0, 0)) (nb ba) bs.out (by simp)); replace HK := Aside0.mk (KeepBut.trans (nK HK) hk (.inl rfl)); replace HB := Aside0.mk (hb); replace HI0 := Aside0.mk (hi); (try clear hb); refine hK.out _ _ (c4e ba) (fun hHeld => ?_); clear hK K; refine norm_ (a' := ?_) ?_ ?_; rotate_left
   ·show Act.put _ (some 15) _ = _
    simp only [Act.put, List.setIfInBounds_toArray, List.set_cons_zero, List.set_cons_succ, i64_w, i32_w]; rfl
   refine rPk 4 16 #[true, true, true, true, true, false, false] ?_; refine rPk 5 17 #[true, true, true, true, true, true, false] ?_; refine last_ (i := 6) (N := none) #[true, true, true, true, true, true, true] rfl rfl (by kernel_rfl) (by decide) (fun K hK => ?_); have hs22 : eh.cell? ⟨bd, 1, none⟩ = some (.int .i64 bl) := (blk_cell ba.out 1).trans rfl; have hfs22 := blk_frozen ba.out 1; have hns22_0 := br.out; have hms22_0 := bK.out; refine skip_ (w1 := ?_) (by rfl) rfl ?_ ?_; rotate_left
   ·go_simp
    rfl
   refine hK.out _ _ ?_; clear hK K; refine done_ (by kernel_rfl) ?_
   try go_wp2
   go_meet
   case rel => exact ⟨_, (dg), (dh), (bt), (wrap64 (bt + df)), H', ⟨by first | omega | exact Nat.le_refl _⟩, ⟨k1_ br.out (nb bb)⟩, ⟨by (with_reducible repeat (first | refine blk_drewN ?_ _ | refine blk_drew ?_ | refine blk_alloc ?_ _)); refine blk_put (cs := #[.int .i64 bt, .int .i64 bl, .int .i64 bg, .int .i64 bc]) ?_ 1 _ rfl; (with_reducible repeat (first | refine blk_drewN ?_ _ | refine blk_drew ?_ | refine blk_alloc ?_ _)); exact ba.out⟩, ⟨IsS90.n⟩, ⟨nK HK⟩, ⟨IsS90.nb⟩⟩
  ·rw [if_neg c12] at H
   have c12b0 : (bq == 0) = false := beq_eq_false_iff_ne.mpr c12; have c12b1 : (bq != 0) = true := bne_iff_ne.mpr c12; (first | rw [c12b0] | (simp only [i64_w, i32_w]; rw [c12b0]) | skip)
   by_cases c23 : bq = 1
   ·rw [if_pos c23] at H
    have c23b0 : (bq == 1) = true := beq_iff_eq.mpr c23; have c23b1 : (bq != 1) = false := bne_eq_false_iff_eq.mpr c23; clear c23; replace H := Option.bind_eq_some_iff.mp H; obtain ⟨⟨bu, b9, da⟩, A240, H⟩ := H; replace H : ((spec_l1Below.f s0_0 b9 da 9).bind fun bp => (spec_l2DrawRight.j0 k s0_0 bp.2.1 bp.2.2 (wrap64 (64 * bu)) (wrap64 ((wrap64 (64 * bu)) + (wrap64 (64 * bp.1)))) bg bc)) = some (r1, r2, r3, r4, r5, r6) := H; have A24 := Aside0.mk A240; clear A240; replace H := Option.bind_eq_some_iff.mp H; obtain ⟨⟨di, dj, dk⟩, A250, H⟩ := H; replace H : (spec_l2DrawRight.j0 k s0_0 dj dk (wrap64 (64 * bu)) (wrap64 ((wrap64 (64 * bu)) + (wrap64 (64 * di)))) bg bc) = some (r1, r2, r3, r4, r5, r6) := H; have A25 := Aside0.mk A250; clear A250; have H' := Aside0.mk H; clear H
    try go_wp2_with (first | ((with_reducible refine gate_callee (f := 86) rfl ?_); refine goesM (some 21) rfl rfl Try.func86 (by kernel_rfl) rfl #[.pointer (some ⟨g, 0, none⟩), .int .i64 20] rfl ?_; (with_reducible refine (spec_l1Below.calls g s0_0 bI bJ 20 bu b9 da w0 _ ?side1 ?side2 A24.out).mono ?_); (case side1 => exact IsS90.n); (case side2 => exact IsS90.nb); rintro e bT ⟨rfl, hi, hb, hk⟩; refine ⟨_, rfl, ?_⟩; replace bb := Aside0.mk (KeepBut.blk hk (g' := bk) (o := .cells #[.int .i64 0, .int .i64 0, .int .i64 0, .int .i64 0] 25 (0, 0)) (nb bb) bD.out (by simp)); replace ba := Aside0.mk (KeepBut.blk hk (g' := bd) (o := .cells #[.int .i64 bA, .int .i64 bl, .int .i64 bg, .int .i64 bc] 25 (0, 0)) (nb ba) bs.out (by simp)); replace HK := Aside0.mk (KeepBut.trans (nK HK) hk (.inl rfl)); replace HB := Aside0.mk (hb); replace HI0 := Aside0.mk (hi); (try clear hb); have eS := bK.out; have eT := br.out; have eU := bs.out; have eV := bN.out; obtain ⟨dT, dU, dV, dW⟩ := c4e ba; obtain ⟨dX, dY, dZ, d0⟩ := z4_ ba))
    have bv : Aside0 ((bT.setCell ⟨bd, 0, none⟩ (.int .i64 (wrap64 (64 * bu)))).heap[bk]? = some (.cells #[.int .i64 0, .int .i64 0, .int .i64 0, .int .i64 0] 25 (0, 0))) := ⟨k1_ br.out (nb bb)⟩; have bw : Aside0 ((bT.setCell ⟨bd, 0, none⟩ (.int .i64 (wrap64 (64 * bu)))).heap[bd]? = some (.cells #[.int .i64 (wrap64 (64 * bu)), .int .i64 bl, .int .i64 bg, .int .i64 bc] 25 (0, 0))) := ⟨by (with_reducible repeat (first | refine blk_drewN ?_ _ | refine blk_drew ?_ | refine blk_alloc ?_ _)); refine blk_put (cs := #[.int .i64 bA, .int .i64 bl, .int .i64 bg, .int .i64 bc]) ?_ 0 _ rfl; (with_reducible repeat (first | refine blk_drewN ?_ _ | refine blk_drew ?_ | refine blk_alloc ?_ _)); exact ba.out⟩; have bx : Aside0 (IsS90 w0 (bT.setCell ⟨bd, 0, none⟩ (.int .i64 (wrap64 (64 * bu)))) g s0_0 b9 da) := ⟨IsS90.n⟩; have bz : Aside0 (KeepBut w (bT.setCell ⟨bd, 0, none⟩ (.int .i64 (wrap64 (64 * bu)))) g none) := ⟨nK HK⟩; have bB : Aside0 (Below w0.heap.size w0 (bT.setCell ⟨bd, 0, none⟩ (.int .i64 (wrap64 (64 * bu))))) := ⟨IsS90.nb⟩; (try clear bb); (try clear ba); (try clear HI0); (try clear HK); (try clear HB); generalize (bT.setCell ⟨bd, 0, none⟩ (.int .i64 (wrap64 (64 * bu)))) = ei at bv bw bx bz bB ⊢; have bb := bv; have ba := bw; have HI0 := bx; have HK := bz; have HB := bB; clear bv bw bx bz bB; replace bb := Aside0.mk (blk_drew bb.out); replace ba := Aside0.mk (blk_drew ba.out); replace HI0 := Aside0.mk (IsS90.drew HI0.out); replace HK := Aside0.mk (keep_drew HK.out); replace HB := Aside0.mk (below_drew1 HB.out); refine start_ (n := 8) (S := fun w' => w'.cell? ⟨bd, 0, none⟩ = some (.int .i64 (wrap64 (64 * bu))) ∧ w'.cell? ⟨bd, 1, none⟩ = some (.int .i64 bl) ∧ w'.cell? ⟨bd, 2, none⟩ = some (.int .i64 bg) ∧ w'.cell? ⟨bd, 3, none⟩ = some (.int .i64 bc)) (ds := [7]) #[false, false, false, false, false, false, false, false] (by kernel_rfl) rfl rfl (c4e ba) (fun hHeld => ?_); refine with_tabW spec_l2DrawRight.tab8 spec_l2DrawRight.bits8 (fun HT_ HW_ => ?_); generalize ei.drew = eW at bb ba HI0 HK HB hHeld ⊢; refine rP HT_.out 0 24 #[true, false, false, false, false, false, false, false] ?_; refine rP HT_.out 2 26 #[true, false, true, false, false, false, false, false] ?_; refine rT HT_.out HW_.out hHeld 1 25 #[true, true, true, false, false, false, false, false] ?_; refine one_ (i := 3) (N := some 27) #[true, true, true, true, false, false, false, false] rfl rfl (one_of HT_.out (by kernel_rfl)) (by decide) (fun K hK => ?_); refine goesR Try.func86 (by kernel_rfl) rfl #[.pointer (some ⟨g, 0, none⟩), .int .i64 9] (by rfl) rfl rfl ?_; (with_reducible refine (spec_l1Below.calls g s0_0 b9 da 9 di dj dk w0 _ ?side1 ?side2 A25.out).mono ?_); (case side1 => exact IsS90.n); (case side2 => exact IsS90.nb); rintro e ej ⟨rfl, hi, hb, hk⟩; refine ⟨_, rfl, ?_⟩; replace bb := Aside0.mk (KeepBut.blk hk (g' := bk) (o := .cells #[.int .i64 0, .int .i64 0, .int .i64 0, .int .i64 0] 25 (0, 0)) (nb bb) bD.out (by simp)); replace ba := Aside0.mk (KeepBut.blk hk (g' := bd) (o := .cells #[.int .i64 (wrap64 (64 * bu)), .int .i64 bl, .int .i64 bg, .int .i64 bc] 25 (0, 0)) (nb ba) bs.out (by simp)); replace HK := Aside0.mk (KeepBut.trans (nK HK) hk (.inl rfl)); replace HB := Aside0.mk (hb); replace HI0 := Aside0.mk (hi); (try clear hb); refine hK.out _ _ (c4e ba) (fun hHeld => ?_); clear hK K; refine norm_ (a' := ?_) ?_ ?_; rotate_left
    ·show Act.put _ (some 27) _ = _
     simp only [Act.put, List.setIfInBounds_toArray, List.set_cons_zero, List.set_cons_succ, i64_w, i32_w]; rfl
    refine rP HT_.out 4 28 #[true, true, true, true, true, false, false, false] ?_; refine rP HT_.out 5 29 #[true, true, true, true, true, true, false, false] ?_; refine rP HT_.out 6 30 #[true, true, true, true, true, true, true, false] ?_; refine last_ (i := 7) (N := none) #[true, true, true, true, true, true, true, true] rfl rfl (one_of HT_.out (by kernel_rfl)) (by decide) (fun K hK => ?_); have hs33 : ej.cell? ⟨bd, 1, none⟩ = some (.int .i64 bl) := (blk_cell ba.out 1).trans rfl; have hfs33 := blk_frozen ba.out 1; have hns33_0 := br.out; have hms33_0 := bK.out; refine skip_ (w1 := ?_) (by rfl) rfl ?_ ?_; rotate_left
    ·go_simp
     rfl
    refine hK.out _ _ ?_; clear hK K; refine done_ (done_of HT_.out (by kernel_rfl)) ?_
    try go_wp2
    go_meet
    case rel => exact ⟨_, (dj), (dk), (wrap64 (64 * bu)), (wrap64 ((wrap64 (64 * bu)) + (wrap64 (64 * di)))), H', ⟨by first | omega | exact Nat.le_refl _⟩, ⟨k1_ br.out (nb bb)⟩, ⟨by (with_reducible repeat (first | refine blk_drewN ?_ _ | refine blk_drew ?_ | refine blk_alloc ?_ _)); refine blk_put (cs := #[.int .i64 (wrap64 (64 * bu)), .int .i64 bl, .int .i64 bg, .int .i64 bc]) ?_ 1 _ rfl; (with_reducible repeat (first | refine blk_drewN ?_ _ | refine blk_drew ?_ | refine blk_alloc ?_ _)); exact ba.out⟩, ⟨IsS90.n⟩, ⟨nK HK⟩, ⟨IsS90.nb⟩⟩
   ·rw [if_neg c23] at H
    have c23b0 : (bq == 1) = false := beq_eq_false_iff_ne.mpr c23; have c23b1 : (bq != 1) = true := bne_iff_ne.mpr c23
    by_cases c34 : bq = 2
    ·rw [if_pos c34] at H
     have c34b0 : (bq == 2) = true := beq_iff_eq.mpr c34; have c34b1 : (bq != 2) = false := bne_eq_false_iff_eq.mpr c34; clear c34; have H' := Aside0.mk H; clear H; have eX := bK.out; have eY := br.out; have eZ := bs.out; have e0 := bN.out; obtain ⟨d1, d2, d3, d4⟩ := c4e ba; obtain ⟨d5, d6, d7, d8⟩ := z4_ ba; go_wp2
     go_meet
     case rel => exact ⟨_, (bI), (bJ), (bA), (32), H', ⟨by first | omega | exact Nat.le_refl _⟩, ⟨k1_ br.out (nb bb)⟩, ⟨by (with_reducible repeat (first | refine blk_drewN ?_ _ | refine blk_drew ?_ | refine blk_alloc ?_ _)); refine blk_put (cs := #[.int .i64 bA, .int .i64 bl, .int .i64 bg, .int .i64 bc]) ?_ 1 _ rfl; (with_reducible repeat (first | refine blk_drewN ?_ _ | refine blk_drew ?_ | refine blk_alloc ?_ _)); exact ba.out⟩, ⟨IsS90.n⟩, ⟨nK HK⟩, ⟨IsS90.nb⟩⟩
    ·rw [if_neg c34] at H
     have c34b0 : (bq == 2) = false := beq_eq_false_iff_ne.mpr c34; have c34b1 : (bq != 2) = true := bne_iff_ne.mpr c34; have H' := Aside0.mk H; clear H; go_wp2
     go_meet
     case rel => exact ⟨_, (bI), (bJ), (bA), (bl), H', ⟨by first | omega | exact Nat.le_refl _⟩, ⟨nb bb⟩, ⟨nb ba⟩, ⟨IsS90.n⟩, ⟨nK HK⟩, ⟨IsS90.nb⟩⟩
 case rest =>
  clear de; try clear c1
  try clear c2
  try clear p2
  try clear c3
  try clear p6
  try clear c8
  try clear c9
  try clear c10
  try clear c12
  try clear c12b0
  try clear c12b1
  try clear c16
  try clear c17
  try clear c23
  try clear c23b0
  try clear c23b1
  try clear c27
  try clear c28
  try clear c34
  try clear c34b0
  try clear c34b1
  try clear c35
  try clear c36
  try clear dD
  try clear dE
  try clear dF
  try clear dG
  try clear dL
  try clear dM
  try clear dN
  try clear dO
  try clear dT
  try clear dU
  try clear dV
  try clear dW
  try clear d1
  try clear d2
  try clear d3
  try clear d4
  try clear dH
  try clear dI
  try clear dJ
  try clear dK
  try clear dP
  try clear dQ
  try clear dR
  try clear dS
  try clear dX
  try clear dY
  try clear dZ
  try clear d0
  try clear d5
  try clear d6
  try clear d7
  try clear d8
  obtain ⟨kq, b5, b6, bi, bj, HA, d9, bb, ba, HI0, HK, HB⟩ := hcut
  cases kq with
  | zero => exact absurd HA.out (by simp [spec_l2DrawRight.j0])
  | succ kj3 =>
   have H := HA.out; clear HA; simp only [spec_l2DrawRight.j0] at H; replace H := Option.bind_eq_some_iff.mp H; obtain ⟨⟨dl, bO, bP⟩, A380, H⟩ := H; replace H : (if dl = true then ((spec_l1Below.f s0_0 bO bP 64).bind fun bG => (spec_l2DrawRight.j1 kj3 s0_0 bG.2.1 bG.2.2 bi bj bG.1 bc)) else (spec_l2DrawRight.j1 kj3 s0_0 bO bP bi bj bg bc)) = some (r1, r2, r3, r4, r5, r6) := H; have A38 := Aside0.mk A380; clear A380; have dm := Aside0.mk H; clear H
   go_upto_if 35 with (first | ((with_reducible refine gate_callee (f := 75) rfl ?_); refine goesM (some 35) rfl rfl Try.func75 (by kernel_rfl) rfl #[.pointer (some ⟨g, 0, none⟩), .int .i64 2] rfl ?_; (with_reducible refine (spec_l1Once.calls g s0_0 b5 b6 2 dl bO bP w0 _ ?side1 ?side2 A38.out).mono ?_); (case side1 => exact IsS90.n); (case side2 => exact IsS90.nb); rintro e e1 ⟨rfl, hi, hb, hk⟩; refine ⟨_, rfl, ?_⟩; replace bb := Aside0.mk (KeepBut.blk hk (g' := bk) (o := .cells #[.int .i64 0, .int .i64 0, .int .i64 0, .int .i64 0] 25 (0, 0)) (nb bb) bD.out (by simp)); replace ba := Aside0.mk (KeepBut.blk hk (g' := bd) (o := .cells #[.int .i64 bi, .int .i64 bj, .int .i64 bg, .int .i64 bc] 25 (0, 0)) (nb ba) bs.out (by simp)); replace HK := Aside0.mk (KeepBut.trans (nK HK) hk (.inl rfl)); replace HB := Aside0.mk (hb); replace HI0 := Aside0.mk (hi); (try clear hb)))
   (try simp only [Act.put, List.setIfInBounds_toArray, List.set_cons_zero, List.set_cons_succ])
   go_cut [] (fun wc => ∃ (kq : Nat) (b1 : Int) (b2 : Int) (bC : Int), Aside0 (spec_l2DrawRight.j1 kq s0_0 b1 b2 bi bj bC bc = some (r1, r2, r3, r4, r5, r6)) ∧ Aside0 (kq ≤ kj3) ∧ Aside0 (wc.heap[bk]? = some (.cells #[.int .i64 0, .int .i64 0, .int .i64 0, .int .i64 0] 25 (0, 0))) ∧ Aside0 (wc.heap[bd]? = some (.cells #[.int .i64 bi, .int .i64 bj, .int .i64 bC, .int .i64 bc] 25 (0, 0))) ∧ Aside0 (IsS90 w0 wc g s0_0 b1 b2) ∧ Aside0 (KeepBut w wc g none) ∧ Aside0 (Below w0.heap.size w0 wc))
   case first =>
    have H := dm.out; clear dm
    by_cases c41 : dl = true
    ·subst c41
     have H1 : ((spec_l1Below.f s0_0 bO bP 64).bind fun bG => (spec_l2DrawRight.j1 kj3 s0_0 bG.2.1 bG.2.2 bi bj bG.1 bc)) = some (r1, r2, r3, r4, r5, r6) := by rw [if_pos rfl] at H; exact H
     clear H; have H := H1; clear H1; replace H := Option.bind_eq_some_iff.mp H; obtain ⟨⟨dn, dp, dq⟩, A420, H⟩ := H; replace H : (spec_l2DrawRight.j1 kj3 s0_0 dp dq bi bj dn bc) = some (r1, r2, r3, r4, r5, r6) := H; have A42 := Aside0.mk A420; clear A420; have H' := Aside0.mk H; clear H
     go_wp2_with (first | ((with_reducible refine gate_callee (f := 86) rfl ?_); refine goesM (some 37) rfl rfl Try.func86 (by kernel_rfl) rfl #[.pointer (some ⟨g, 0, none⟩), .int .i64 64] rfl ?_; (with_reducible refine (spec_l1Below.calls g s0_0 bO bP 64 dn dp dq w0 _ ?side1 ?side2 A42.out).mono ?_); (case side1 => exact IsS90.n); (case side2 => exact IsS90.nb); rintro e e2 ⟨rfl, hi, hb, hk⟩; refine ⟨_, rfl, ?_⟩; replace bb := Aside0.mk (KeepBut.blk hk (g' := bk) (o := .cells #[.int .i64 0, .int .i64 0, .int .i64 0, .int .i64 0] 25 (0, 0)) (nb bb) bD.out (by simp)); replace ba := Aside0.mk (KeepBut.blk hk (g' := bd) (o := .cells #[.int .i64 bi, .int .i64 bj, .int .i64 bg, .int .i64 bc] 25 (0, 0)) (nb ba) bs.out (by simp)); replace HK := Aside0.mk (KeepBut.trans (nK HK) hk (.inl rfl)); replace HB := Aside0.mk (hb); replace HI0 := Aside0.mk (hi); (try clear hb); have e3 := bK.out; have e4 := br.out; have e5 := bs.out; have e6 := bN.out; obtain ⟨ek, el, em, en⟩ := c4e ba; obtain ⟨eo, ep, er, es⟩ := z4_ ba))
     go_meet
     case rel => exact ⟨_, (dp), (dq), (dn), H', ⟨by have := d9.out; first | omega | exact Nat.le_refl _⟩, ⟨k1_ br.out (nb bb)⟩, ⟨by (with_reducible repeat (first | refine blk_drewN ?_ _ | refine blk_drew ?_ | refine blk_alloc ?_ _)); refine blk_put (cs := #[.int .i64 bi, .int .i64 bj, .int .i64 bg, .int .i64 bc]) ?_ 2 _ rfl; (with_reducible repeat (first | refine blk_drewN ?_ _ | refine blk_drew ?_ | refine blk_alloc ?_ _)); exact ba.out⟩, ⟨IsS90.n⟩, ⟨nK HK⟩, ⟨IsS90.nb⟩⟩
    ·replace c41 := Bool.eq_false_iff.mpr c41
     subst c41; have H1 : (spec_l2DrawRight.j1 kj3 s0_0 bO bP bi bj bg bc) = some (r1, r2, r3, r4, r5, r6) := by rw [if_neg (show ¬ (false = true) by decide)] at H; exact H
     clear H; have H := H1; clear H1; have H' := Aside0.mk H; clear H; go_wp2
     go_meet
     case rel => exact ⟨_, (bO), (bP), (bg), H', ⟨by have := d9.out; first | omega | exact Nat.le_refl _⟩, ⟨nb bb⟩, ⟨nb ba⟩, ⟨IsS90.n⟩, ⟨nK HK⟩, ⟨IsS90.nb⟩⟩
   case rest =>
    clear dm; try clear c1
    try clear c2
    try clear p2
    try clear c3
    try clear c4
    try clear p6
    try clear c7
    try clear c8
    try clear c9
    try clear c10
    try clear c12
    try clear c12b0
    try clear c12b1
    try clear c16
    try clear c17
    try clear c23
    try clear c23b0
    try clear c23b1
    try clear c27
    try clear c28
    try clear c34
    try clear c34b0
    try clear c34b1
    try clear c35
    try clear c36
    try clear c41
    try clear c44
    try clear c45
    try clear dD
    try clear dE
    try clear dF
    try clear dG
    try clear dL
    try clear dM
    try clear dN
    try clear dO
    try clear dT
    try clear dU
    try clear dV
    try clear dW
    try clear d1
    try clear d2
    try clear d3
    try clear d4
    try clear ek
    try clear el
    try clear em
    try clear en
    try clear dH
    try clear dI
    try clear dJ
    try clear dK
    try clear dP
    try clear dQ
    try clear dR
    try clear dS
    try clear dX
    try clear dY
    try clear dZ
    try clear d0
    try clear d5
    try clear d6
    try clear d7
    try clear d8
    try clear eo
    try clear ep
    try clear er
    try clear es
    try clear p2
    try clear p6
    obtain ⟨kq, b1, b2, bC, HA, e7, bb, ba, HI0, HK, HB⟩ := hcut
    cases kq with
    | zero => exact absurd HA.out (by simp [spec_l2DrawRight.j1])
    | succ kj38 =>
     have H := HA.out; clear HA; simp only [spec_l2DrawRight.j1] at H; replace H := Option.bind_eq_some_iff.mp H; obtain ⟨⟨ea, bQ, bR⟩, A470, H⟩ := H; replace H : (if ea = true then ((spec_l1Below.f s0_0 bQ bR 7).bind fun bH => (some (bi, bj, bC, wrap64 (1 + bH.1), bH.2.1, bH.2.2))) else (some (bi, bj, bC, bc, bQ, bR))) = some (r1, r2, r3, r4, r5, r6) := H; have A47 := Aside0.mk A470; clear A470
     by_cases c48 : ea = true
     ·subst c48
      have H1 : ((spec_l1Below.f s0_0 bQ bR 7).bind fun bH => (some (bi, bj, bC, wrap64 (1 + bH.1), bH.2.1, bH.2.2))) = some (r1, r2, r3, r4, r5, r6) := by rw [if_pos rfl] at H; exact H
      clear H; have H := H1; clear H1; replace H := Option.bind_eq_some_iff.mp H; obtain ⟨⟨dr, eb, ec⟩, A490, H⟩ := H; replace H : (some (bi, bj, bC, wrap64 (1 + dr), eb, ec)) = some (r1, r2, r3, r4, r5, r6) := H; have A49 := Aside0.mk A490; clear A490; simp only [Option.some.injEq, Prod.mk.injEq] at H; obtain ⟨rfl, rfl, rfl, rfl, rfl, rfl⟩ := H
      go_wp2_with (first | ((with_reducible refine gate_callee (f := 75) rfl ?_); refine goesM (some 40) rfl rfl Try.func75 (by kernel_rfl) rfl #[.pointer (some ⟨g, 0, none⟩), .int .i64 5] rfl ?_; (with_reducible refine (spec_l1Once.calls g s0_0 b1 b2 5 true bQ bR w0 _ ?side1 ?side2 A47.out).mono ?_); (case side1 => exact IsS90.n); (case side2 => exact IsS90.nb); rintro e e8 ⟨rfl, hi, hb, hk⟩; refine ⟨_, rfl, ?_⟩; replace bb := Aside0.mk (KeepBut.blk hk (g' := bk) (o := .cells #[.int .i64 0, .int .i64 0, .int .i64 0, .int .i64 0] 25 (0, 0)) (nb bb) bD.out (by simp)); replace ba := Aside0.mk (KeepBut.blk hk (g' := bd) (o := .cells #[.int .i64 bi, .int .i64 bj, .int .i64 bC, .int .i64 bc] 25 (0, 0)) (nb ba) bs.out (by simp)); replace HK := Aside0.mk (KeepBut.trans (nK HK) hk (.inl rfl)); replace HB := Aside0.mk (hb); replace HI0 := Aside0.mk (hi); (try clear hb)) | ((with_reducible refine gate_callee (f := 86) rfl ?_); refine goesM (some 42) rfl rfl Try.func86 (by kernel_rfl) rfl #[.pointer (some ⟨g, 0, none⟩), .int .i64 7] rfl ?_; (with_reducible refine (spec_l1Below.calls g s0_0 bQ bR 7 dr eb ec w0 _ ?side1 ?side2 A49.out).mono ?_); (case side1 => exact IsS90.n); (case side2 => exact IsS90.nb); rintro e e9 ⟨rfl, hi, hb, hk⟩; refine ⟨_, rfl, ?_⟩; replace bb := Aside0.mk (KeepBut.blk hk (g' := bk) (o := .cells #[.int .i64 0, .int .i64 0, .int .i64 0, .int .i64 0] 25 (0, 0)) (nb bb) bD.out (by simp)); replace ba := Aside0.mk (KeepBut.blk hk (g' := bd) (o := .cells #[.int .i64 bi, .int .i64 bj, .int .i64 bC, .int .i64 bc] 25 (0, 0)) (nb ba) bs.out (by simp)); replace HK := Aside0.mk (KeepBut.trans (nK HK) hk (.inl rfl)); replace HB := Aside0.mk (hb); replace HI0 := Aside0.mk (hi); (try clear hb); have ga := bK.out; have gb := br.out; have gc := bs.out; have gd := bN.out; obtain ⟨gf, gg, gh, gi⟩ := c4e ba; obtain ⟨gj, gl, gm, gn⟩ := z4_ ba; have gp := bD.out; have gq := dz.out; obtain ⟨gr, gs, gt, gu⟩ := c4e bb; obtain ⟨gv, gw, gx, gy⟩ := z4_ bb))
      refine bodyPost_ret (results_cell_row rfl _ _ bk 25 #[.int .i64 bi, .int .i64 bj, .int .i64 bC, .int .i64 (wrap64 (1 + dr))] (0, 0) _ rfl (p4 bb (k1_ br.out (nb bb))) Try.underlying25 rfl (by kernel_rfl)) rfl ?_; exact ⟨er_, IsS90.n, IsS90.nb, nK HK⟩
     ·replace c48 := Bool.eq_false_iff.mpr c48
      subst c48; have H1 : (some (bi, bj, bC, bc, bQ, bR)) = some (r1, r2, r3, r4, r5, r6) := by rw [if_neg (show ¬ (false = true) by decide)] at H; exact H
      clear H; have H := H1; clear H1; simp only [Option.some.injEq, Prod.mk.injEq] at H; obtain ⟨rfl, rfl, rfl, rfl, rfl, rfl⟩ := H
      go_wp2_with (first | ((with_reducible refine gate_callee (f := 75) rfl ?_); refine goesM (some 40) rfl rfl Try.func75 (by kernel_rfl) rfl #[.pointer (some ⟨g, 0, none⟩), .int .i64 5] rfl ?_; (with_reducible refine (spec_l1Once.calls g s0_0 b1 b2 5 false bQ bR w0 _ ?side1 ?side2 A47.out).mono ?_); (case side1 => exact IsS90.n); (case side2 => exact IsS90.nb); rintro e gz ⟨rfl, hi, hb, hk⟩; refine ⟨_, rfl, ?_⟩; replace bb := Aside0.mk (KeepBut.blk hk (g' := bk) (o := .cells #[.int .i64 0, .int .i64 0, .int .i64 0, .int .i64 0] 25 (0, 0)) (nb bb) bD.out (by simp)); replace ba := Aside0.mk (KeepBut.blk hk (g' := bd) (o := .cells #[.int .i64 bi, .int .i64 bj, .int .i64 bC, .int .i64 bc] 25 (0, 0)) (nb ba) bs.out (by simp)); replace HK := Aside0.mk (KeepBut.trans (nK HK) hk (.inl rfl)); replace HB := Aside0.mk (hb); replace HI0 := Aside0.mk (hi); (try clear hb); have gA := bK.out; have gB := br.out; have gC := bs.out; have gD := bN.out; obtain ⟨gE, gF, gG, gH⟩ := c4e ba; obtain ⟨gI, gJ, gK, gL⟩ := z4_ ba; have gM := bD.out; have gN := dz.out; obtain ⟨gO, gP, gQ, gR⟩ := c4e bb; obtain ⟨gS, gT, gU, gV⟩ := z4_ bb))
      refine bodyPost_ret (results_cell_row rfl _ _ bk 25 #[.int .i64 bi, .int .i64 bj, .int .i64 bC, .int .i64 bc] (0, 0) _ rfl (q4 bb) Try.underlying25 rfl (by kernel_rfl)) rfl ?_; exact ⟨er_, IsS90.n, IsS90.nb, nK HK⟩

end Go.Proofs.Ytiliggbholjdjaa.PFnSealed
