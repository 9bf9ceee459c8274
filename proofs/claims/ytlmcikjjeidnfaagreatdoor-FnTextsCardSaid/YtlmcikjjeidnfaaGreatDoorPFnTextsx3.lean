-- Written by a program of this session (wip/patch.py turns a copy of the kit's print): the functions that the law reaches, and their walks.
import Derived.Test.YtlmcikjjeidnfaaGreatDoorPFnTextsx0
import Derived.Test.YtlmcikjjeidnfaaGreatDoorPFnTextsx2
import Derived.Test.YtlmcikjjeidnfaaGreatDoorCFnTexts
namespace Go.Proofs.YtlmcikjjeidnfaaGreatDoor.PFnTexts
open Go.RowKit Go.Proofs.YtlmcikjjeidnfaaGreatDoorW.PrintWords Go.Proofs.YtlmcikjjeidnfaaGreatDoorW.PrintLast Go.Proofs.YtlmcikjjeidnfaaGreatDoorW.PrintMore Go.Proofs.YtlmcikjjeidnfaaGreatDoorW.Mine
attribute [local go_sem] max2_int min2_int max_two min_two max_three min_three max_four min_four   -- for this text's walks alone
set_option linter.unusedVariables false
set_option linter.unusedSimpArgs false

/-! ### spec_l1Once: function 47 -/
def spec_l1Once.f (s0_0 : List Int) (s0_1 : Int) (s0_2 : Int) (a1 : Int) : Option (Bool × Int × Int) := (spec_l1Below.f s0_0 s0_1 s0_2 a1).bind fun b1 => (some ((b1.1 == 0), b1.2.1, b1.2.2))
set_option maxHeartbeats 8000000 in
set_option maxRecDepth 100000 in
theorem spec_l1Once.calls (g : Nat) (s0_0 : List Int) (s0_1 : Int) (s0_2 : Int) (a1 : Int) (r1 : Bool) (r2 : Int) (r3 : Int) (w0 w : World) (hI : IsS74 w0 w g s0_0 s0_1 s0_2) (hB : Below w0.heap.size w0 w) (h : spec_l1Once.f s0_0 s0_1 s0_2 a1 = some (r1, r2, r3)) :
    Calls Tryz.prog 47 #[.pointer (some ⟨g, 0, none⟩), .int .i64 a1] w fun e w' => e = .returned (.bool r1) ∧ IsS74 w0 w' g s0_0 r2 r3 ∧ Below w0.heap.size w0 w' ∧ KeepBut w w' g none := by
  have HI0 := Aside0.mk hI; have HK := Aside0.mk (KeepBut.refl w g none); have HL := Aside0.mk hB.size; clear hI; have HW0 := Aside0.mk hB.size; have HB := Aside0.mk hB; clear hB; have H : ((spec_l1Below.f s0_0 s0_1 s0_2 a1).bind fun b1 => (some ((b1.1 == 0), b1.2.1, b1.2.2))) = some (r1, r2, r3) := h; clear h; replace H := Option.bind_eq_some_iff.mp H; obtain ⟨⟨dR, dS, dT⟩, A30, H⟩ := H; replace H : (some ((dR == 0), dS, dT)) = some (r1, r2, r3) := H; have A3 := Aside0.mk A30; clear A30; simp only [Option.some.injEq, Prod.mk.injEq] at H; obtain ⟨rfl, rfl, rfl⟩ := H
  go_enter Tryz.func47, Tryz.ntmps47
  go_wp2_with (first | ((with_reducible refine gate_callee (f := 57) rfl ?_); refine goesM (some 7) rfl rfl Tryz.func57 (by kernel_rfl) rfl #[.pointer (some ⟨g, 0, none⟩), .int .i64 a1] rfl ?_; (with_reducible refine (spec_l1Below.calls g s0_0 s0_1 s0_2 a1 dR dS dT w0 _ ?side1 ?side2 A3.out).mono ?_); (case side1 => exact IsS74.n); (case side2 => exact IsS74.nb); rintro e w4 ⟨rfl, hi, hb, hk⟩; refine ⟨_, rfl, ?_⟩; replace HK := Aside0.mk (KeepBut.trans (nK HK) hk (.inl rfl)); replace HB := Aside0.mk (hb); replace HI0 := Aside0.mk (hi); (try clear hb)))
  go_ret
  exact ⟨er_, IsS74.n, IsS74.nb, nK HK⟩

/-! ### spec_l6Spoil: function 48 -/
def spec_l6Spoil.f (s0_0 : List Int) (s0_1 : Int) (s0_2 : Int) (a1_0 : Int) (a1_1 : Int) (a1_2 : Int) (a1_3 : Int) (a1_4 : Int) : Option (Int × Int × Int × Int × Int × Int × Int) := (spec_l1Below.f s0_0 s0_1 s0_2 7).bind fun bq => (if bq.1 = 0 then ((spec_l1Below.f s0_0 bq.2.1 bq.2.2 18).bind fun bQ => (some (wrap64 (bQ.1 - 1), a1_1, a1_2, a1_3, a1_4, bQ.2.1, bQ.2.2))) else (if bq.1 = 1 then ((spec_l1PickInt.f s0_0 bq.2.1 bq.2.2 (([(-1), 7, 8] : List Int))).bind fun bD => (some (a1_0, bD.1, a1_2, a1_3, a1_4, bD.2.1, bD.2.2))) else (if bq.1 = 2 then ((spec_l1PickInt.f s0_0 bq.2.1 bq.2.2 (([(-1), 7, 8] : List Int))).bind fun bE => (some (a1_0, a1_1, bE.1, a1_3, a1_4, bE.2.1, bE.2.2))) else (if bq.1 = 3 then ((spec_l1PickInt.f s0_0 bq.2.1 bq.2.2 (([(-128), (-129), 127, 128] : List Int))).bind fun bF => (some (a1_0, a1_1, a1_2, a1_3, bF.1, bF.2.1, bF.2.2))) else (some (a1_0, a1_1, a1_2, a1_3, a1_4, bq.2.1, bq.2.2))))))
set_option maxHeartbeats 8000000 in
set_option maxRecDepth 100000 in
theorem spec_l6Spoil.calls (g : Nat) (s0_0 : List Int) (s0_1 : Int) (s0_2 : Int) (a1_0 : Int) (a1_1 : Int) (a1_2 : Int) (a1_3 : Int) (a1_4 : Int) (r1 : Int) (r2 : Int) (r3 : Int) (r4 : Int) (r5 : Int) (r6 : Int) (r7 : Int) (w0 w : World) (hI : IsS74 w0 w g s0_0 s0_1 s0_2) (hB : Below w0.heap.size w0 w) (h : spec_l6Spoil.f s0_0 s0_1 s0_2 a1_0 a1_1 a1_2 a1_3 a1_4 = some (r1, r2, r3, r4, r5, r6, r7)) :
    Calls Tryz.prog 48 #[.pointer (some ⟨g, 0, none⟩), .agg #[.int .i64 a1_0, .int .i64 a1_1, .int .i64 a1_2, .int .i64 a1_3, .int .i64 a1_4]] w fun e w' => e = .returned (.agg #[.int .i64 r1, .int .i64 r2, .int .i64 r3, .int .i64 r4, .int .i64 r5]) ∧ IsS74 w0 w' g s0_0 r6 r7 ∧ Below w0.heap.size w0 w' ∧ KeepBut w w' g none := by
  have hu25 := Tryz.underlying25; have HI0 := Aside0.mk hI; have HK := Aside0.mk (KeepBut.refl w g none); have HL := Aside0.mk hB.size; clear hI; have HW0 := Aside0.mk hB.size; have HB := Aside0.mk hB; clear hB; have H : ((spec_l1Below.f s0_0 s0_1 s0_2 7).bind fun bq => (if bq.1 = 0 then ((spec_l1Below.f s0_0 bq.2.1 bq.2.2 18).bind fun bQ => (some (wrap64 (bQ.1 - 1), a1_1, a1_2, a1_3, a1_4, bQ.2.1, bQ.2.2))) else (if bq.1 = 1 then ((spec_l1PickInt.f s0_0 bq.2.1 bq.2.2 (([(-1), 7, 8] : List Int))).bind fun bD => (some (a1_0, bD.1, a1_2, a1_3, a1_4, bD.2.1, bD.2.2))) else (if bq.1 = 2 then ((spec_l1PickInt.f s0_0 bq.2.1 bq.2.2 (([(-1), 7, 8] : List Int))).bind fun bE => (some (a1_0, a1_1, bE.1, a1_3, a1_4, bE.2.1, bE.2.2))) else (if bq.1 = 3 then ((spec_l1PickInt.f s0_0 bq.2.1 bq.2.2 (([(-128), (-129), 127, 128] : List Int))).bind fun bF => (some (a1_0, a1_1, a1_2, a1_3, bF.1, bF.2.1, bF.2.2))) else (some (a1_0, a1_1, a1_2, a1_3, a1_4, bq.2.1, bq.2.2))))))) = some (r1, r2, r3, r4, r5, r6, r7) := h; clear h; replace H := Option.bind_eq_some_iff.mp H; obtain ⟨⟨br, bu, bv⟩, A30, H⟩ := H; replace H : (if br = 0 then ((spec_l1Below.f s0_0 bu bv 18).bind fun bQ => (some (wrap64 (bQ.1 - 1), a1_1, a1_2, a1_3, a1_4, bQ.2.1, bQ.2.2))) else (if br = 1 then ((spec_l1PickInt.f s0_0 bu bv (([(-1), 7, 8] : List Int))).bind fun bD => (some (a1_0, bD.1, a1_2, a1_3, a1_4, bD.2.1, bD.2.2))) else (if br = 2 then ((spec_l1PickInt.f s0_0 bu bv (([(-1), 7, 8] : List Int))).bind fun bE => (some (a1_0, a1_1, bE.1, a1_3, a1_4, bE.2.1, bE.2.2))) else (if br = 3 then ((spec_l1PickInt.f s0_0 bu bv (([(-128), (-129), 127, 128] : List Int))).bind fun bF => (some (a1_0, a1_1, a1_2, a1_3, bF.1, bF.2.1, bF.2.2))) else (some (a1_0, a1_1, a1_2, a1_3, a1_4, bu, bv)))))) = some (r1, r2, r3, r4, r5, r6, r7) := H; have A3 := Aside0.mk A30; clear A30
  by_cases c4 : br = 0
  · rw [if_pos c4] at H
    have c4b0 : (br == 0) = true := beq_iff_eq.mpr c4; have c4b1 : (br != 0) = false := bne_eq_false_iff_eq.mpr c4; clear c4; replace H := Option.bind_eq_some_iff.mp H; obtain ⟨⟨dr, dU, dV⟩, A50, H⟩ := H; replace H : (some (wrap64 (dr - 1), a1_1, a1_2, a1_3, a1_4, dU, dV)) = some (r1, r2, r3, r4, r5, r6, r7) := H; have A5 := Aside0.mk A50; clear A50; simp only [Option.some.injEq, Prod.mk.injEq] at H; obtain ⟨rfl, rfl, rfl, rfl, rfl, rfl, rfl⟩ := H
    go_enter Tryz.func48, Tryz.ntmps48
    go_wp2_with (first | ((with_reducible refine gate_dst (N := 3) rfl ?_); refine bxe 3 #[.int .i64 a1_0, .int .i64 a1_1, .int .i64 a1_2, .int .i64 a1_3, .int .i64 a1_4] 25 ?_; intro bk hg w6 hbox hb; have bc := Aside0.mk (IsS74.below (IsS74.n) hb); have bd := Aside0.mk (KeepBut.trans (nK HK) (KeepBut.of_below hb g none) (.inl rfl)); have bf := Aside0.mk (below_step (IsS74.nb) hb); have bg := hbox; have bh := Aside0.mk ((by rw [hg]; exact (keep_size (w := w) (g := g) (row := none) (nK HK)) : w.heap.size ≤ bk)); have bi := Aside0.mk ((Nat.le_trans HW0.out (by rw [hg]; exact (keep_size (w := w) (g := g) (row := none) (nK HK)) : w.heap.size ≤ bk) : w0.heap.size ≤ bk)); have bn := Aside0.mk ((by rw [hg]; exact Nat.ne_of_lt (IsS74.lt (show IsS74 w0 _ g s0_0 s0_1 s0_2 from IsS74.n)) : g ≠ bk)); have bo := Aside0.mk ((by rw [hg]; exact Nat.ne_of_gt (IsS74.lt (show IsS74 w0 _ g s0_0 s0_1 s0_2 from IsS74.n)) : bk ≠ g)); clear HI0 HK HB; have HI0 := bc; have HK := bd; have HB := bf; have ba := bg; have dk := bh; have dl := bi; have bU := bn; have bz := bo; clear bc bd bf bg bh bi bn bo; clear hb hbox hg) | ((with_reducible refine gate_dst (N := 4) rfl ?_); refine bxe 4 #[.int .i64 0, .int .i64 0, .int .i64 0, .int .i64 0, .int .i64 0] 25 ?_; intro bj hg w7 hbox hb; have bc := Aside0.mk (IsS74.below (IsS74.n) hb); have bd := nblk ba hb; have bf := Aside0.mk (KeepBut.trans (nK HK) (KeepBut.of_below hb g none) (.inl rfl)); have bg := Aside0.mk (below_step (IsS74.nb) hb); have bh := hbox; have bi := Aside0.mk ((by rw [hg]; exact (keep_size (w := w) (g := g) (row := none) (nK HK)) : w.heap.size ≤ bj)); have bn := Aside0.mk ((Nat.le_trans HW0.out (by rw [hg]; exact (keep_size (w := w) (g := g) (row := none) (nK HK)) : w.heap.size ≤ bj) : w0.heap.size ≤ bj)); have bo := nlt ba hg; have bw := ngt ba hg; have bx := Aside0.mk ((by rw [hg]; exact Nat.ne_of_lt (IsS74.lt (show IsS74 w0 _ g s0_0 s0_1 s0_2 from IsS74.n)) : g ≠ bj)); have bH := Aside0.mk ((by rw [hg]; exact Nat.ne_of_gt (IsS74.lt (show IsS74 w0 _ g s0_0 s0_1 s0_2 from IsS74.n)) : bj ≠ g)); clear HI0 ba HK HB; have HI0 := bc; have ba := bd; have HK := bf; have HB := bg; have bb := bh; have dm := bi; have dn := bn; have bV := bo; have bO := bw; have bW := bx; have bA := bH; clear bc bd bf bg bh bi bn bo bw bx bH; clear hb hbox hg) | ((with_reducible refine gate_callee (f := 57) rfl ?_); refine goesM (some 6) rfl rfl Tryz.func57 (by kernel_rfl) rfl #[.pointer (some ⟨g, 0, none⟩), .int .i64 7] rfl ?_; (with_reducible refine (spec_l1Below.calls g s0_0 s0_1 s0_2 7 br bu bv w0 _ ?side1 ?side2 A3.out).mono ?_); (case side1 => exact IsS74.n); (case side2 => exact IsS74.nb); rintro e w8 ⟨rfl, hi, hb, hk⟩; refine ⟨_, rfl, ?_⟩; replace ba := Aside0.mk (KeepBut.blk hk (g' := bk) (o := .cells #[.int .i64 a1_0, .int .i64 a1_1, .int .i64 a1_2, .int .i64 a1_3, .int .i64 a1_4] 25 (0, 0)) (nb ba) bz.out (by simp)); replace bb := Aside0.mk (KeepBut.blk hk (g' := bj) (o := .cells #[.int .i64 0, .int .i64 0, .int .i64 0, .int .i64 0, .int .i64 0] 25 (0, 0)) (nb bb) bA.out (by simp)); replace HK := Aside0.mk (KeepBut.trans (nK HK) hk (.inl rfl)); replace HB := Aside0.mk (hb); replace HI0 := Aside0.mk (hi); (try clear hb)) | ((with_reducible refine gate_callee (f := 57) rfl ?_); refine goesM (some 10) rfl rfl Tryz.func57 (by kernel_rfl) rfl #[.pointer (some ⟨g, 0, none⟩), .int .i64 18] rfl ?_; (with_reducible refine (spec_l1Below.calls g s0_0 bu bv 18 dr dU dV w0 _ ?side1 ?side2 A5.out).mono ?_); (case side1 => exact IsS74.n); (case side2 => exact IsS74.nb); rintro e w9 ⟨rfl, hi, hb, hk⟩; refine ⟨_, rfl, ?_⟩; replace ba := Aside0.mk (KeepBut.blk hk (g' := bk) (o := .cells #[.int .i64 a1_0, .int .i64 a1_1, .int .i64 a1_2, .int .i64 a1_3, .int .i64 a1_4] 25 (0, 0)) (nb ba) bz.out (by simp)); replace bb := Aside0.mk (KeepBut.blk hk (g' := bj) (o := .cells #[.int .i64 0, .int .i64 0, .int .i64 0, .int .i64 0, .int .i64 0] 25 (0, 0)) (nb bb) bA.out (by simp)); replace HK := Aside0.mk (KeepBut.trans (nK HK) hk (.inl rfl)); replace HB := Aside0.mk (hb); replace HI0 := Aside0.mk (hi); (try clear hb); have gg := bV.out; have gh := bO.out; have d7 := bz.out; have d8 := bU.out; obtain ⟨gi, gj, gl, gm, gn⟩ := c5e ba; obtain ⟨gp, gq, gr, gs, gt⟩ := z5_ ba; have gu := bA.out; have gv := bW.out; obtain ⟨gw, gx, gy, gz, gA⟩ := c5e bb; obtain ⟨gB, gC, gD, gE, gF⟩ := z5_ bb))
    refine bodyPost_ret (results_cell_row rfl _ _ bj 25 #[.int .i64 (wrap64 (dr - 1)), .int .i64 a1_1, .int .i64 a1_2, .int .i64 a1_3, .int .i64 a1_4] (0, 0) _ rfl (p5 bb (k1_ bO.out (nb bb))) Tryz.underlying25 rfl (by kernel_rfl)) rfl ?_; exact ⟨er_, IsS74.n, IsS74.nb, nK HK⟩
  · rw [if_neg c4] at H
    have c4b0 : (br == 0) = false := beq_eq_false_iff_ne.mpr c4; have c4b1 : (br != 0) = true := bne_iff_ne.mpr c4
    by_cases c15 : br = 1
    · rw [if_pos c15] at H
      have c15b0 : (br == 1) = true := beq_iff_eq.mpr c15; have c15b1 : (br != 1) = false := bne_eq_false_iff_eq.mpr c15; clear c15; obtain ⟨ds, b9⟩ : ∃ y_ : List Int, y_ = (([(-1), 7, 8] : List Int)) := ⟨_, rfl⟩; replace H : ((spec_l1PickInt.f s0_0 bu bv ds).bind fun bD => (some (a1_0, bD.1, a1_2, a1_3, a1_4, bD.2.1, bD.2.2))) = some (r1, r2, r3, r4, r5, r6, r7) := by first | (rw [b9]; with_reducible exact H) | (have H2_ := (Option.bind_some _ _).symm.trans H; rw [b9]; with_reducible exact H2_) | (have H2_ := (Option.bind_some _ _).symm.trans H; with_reducible exact H2_) | with_reducible exact H | (rw [b9]; exact H) | exact H
      have dW := Aside0.mk b9; clear b9; replace H := Option.bind_eq_some_iff.mp H; obtain ⟨⟨dt, dX, dY⟩, A160, H⟩ := H; replace H : (some (a1_0, dt, a1_2, a1_3, a1_4, dX, dY)) = some (r1, r2, r3, r4, r5, r6, r7) := H; have A16 := Aside0.mk A160; clear A160; simp only [Option.some.injEq, Prod.mk.injEq] at H; obtain ⟨rfl, rfl, rfl, rfl, rfl, rfl, rfl⟩ := H
      go_enter Tryz.func48, Tryz.ntmps48
      go_wp2_with (first | ((with_reducible refine gate_dst (N := 3) rfl ?_); refine bxe 3 #[.int .i64 a1_0, .int .i64 a1_1, .int .i64 a1_2, .int .i64 a1_3, .int .i64 a1_4] 25 ?_; intro bk hg gG hbox hb; have bc := Aside0.mk (IsS74.below (IsS74.n) hb); have bd := Aside0.mk (KeepBut.trans (nK HK) (KeepBut.of_below hb g none) (.inl rfl)); have bf := Aside0.mk (below_step (IsS74.nb) hb); have bg := hbox; have bh := Aside0.mk ((by rw [hg]; exact (keep_size (w := w) (g := g) (row := none) (nK HK)) : w.heap.size ≤ bk)); have bi := Aside0.mk ((Nat.le_trans HW0.out (by rw [hg]; exact (keep_size (w := w) (g := g) (row := none) (nK HK)) : w.heap.size ≤ bk) : w0.heap.size ≤ bk)); have bn := Aside0.mk ((by rw [hg]; exact Nat.ne_of_lt (IsS74.lt (show IsS74 w0 _ g s0_0 s0_1 s0_2 from IsS74.n)) : g ≠ bk)); have bo := Aside0.mk ((by rw [hg]; exact Nat.ne_of_gt (IsS74.lt (show IsS74 w0 _ g s0_0 s0_1 s0_2 from IsS74.n)) : bk ≠ g)); clear HI0 HK HB; have HI0 := bc; have HK := bd; have HB := bf; have ba := bg; have dk := bh; have dl := bi; have bU := bn; have bz := bo; clear bc bd bf bg bh bi bn bo; clear hb hbox hg) | ((with_reducible refine gate_dst (N := 4) rfl ?_); refine bxe 4 #[.int .i64 0, .int .i64 0, .int .i64 0, .int .i64 0, .int .i64 0] 25 ?_; intro bj hg gH hbox hb; have bc := Aside0.mk (IsS74.below (IsS74.n) hb); have bd := nblk ba hb; have bf := Aside0.mk (KeepBut.trans (nK HK) (KeepBut.of_below hb g none) (.inl rfl)); have bg := Aside0.mk (below_step (IsS74.nb) hb); have bh := hbox; have bi := Aside0.mk ((by rw [hg]; exact (keep_size (w := w) (g := g) (row := none) (nK HK)) : w.heap.size ≤ bj)); have bn := Aside0.mk ((Nat.le_trans HW0.out (by rw [hg]; exact (keep_size (w := w) (g := g) (row := none) (nK HK)) : w.heap.size ≤ bj) : w0.heap.size ≤ bj)); have bo := nlt ba hg; have bw := ngt ba hg; have bx := Aside0.mk ((by rw [hg]; exact Nat.ne_of_lt (IsS74.lt (show IsS74 w0 _ g s0_0 s0_1 s0_2 from IsS74.n)) : g ≠ bj)); have bH := Aside0.mk ((by rw [hg]; exact Nat.ne_of_gt (IsS74.lt (show IsS74 w0 _ g s0_0 s0_1 s0_2 from IsS74.n)) : bj ≠ g)); clear HI0 ba HK HB; have HI0 := bc; have ba := bd; have HK := bf; have HB := bg; have bb := bh; have dm := bi; have dn := bn; have bV := bo; have bO := bw; have bW := bx; have bA := bH; clear bc bd bf bg bh bi bn bo bw bx bH; clear hb hbox hg) | ((with_reducible refine gate_callee (f := 57) rfl ?_); refine goesM (some 6) rfl rfl Tryz.func57 (by kernel_rfl) rfl #[.pointer (some ⟨g, 0, none⟩), .int .i64 7] rfl ?_; (with_reducible refine (spec_l1Below.calls g s0_0 s0_1 s0_2 7 br bu bv w0 _ ?side1 ?side2 A3.out).mono ?_); (case side1 => exact IsS74.n); (case side2 => exact IsS74.nb); rintro e gI ⟨rfl, hi, hb, hk⟩; refine ⟨_, rfl, ?_⟩; replace ba := Aside0.mk (KeepBut.blk hk (g' := bk) (o := .cells #[.int .i64 a1_0, .int .i64 a1_1, .int .i64 a1_2, .int .i64 a1_3, .int .i64 a1_4] 25 (0, 0)) (nb ba) bz.out (by simp)); replace bb := Aside0.mk (KeepBut.blk hk (g' := bj) (o := .cells #[.int .i64 0, .int .i64 0, .int .i64 0, .int .i64 0, .int .i64 0] 25 (0, 0)) (nb bb) bA.out (by simp)); replace HK := Aside0.mk (KeepBut.trans (nK HK) hk (.inl rfl)); replace HB := Aside0.mk (hb); replace HI0 := Aside0.mk (hi); (try clear hb)) | ((with_reducible refine gate_dst (N := 16) rfl ?_); refine Kd.R_lit (Kd.int .i64) _ 3 ?hg (N := 16) ?hd (xs := ([(-1), 7, 8] : List Int)) (inner := [.int .i64 (-1), .int .i64 7, .int .i64 8]) (ok := fun _ => True) (okp := fun _ => True) ?hr ?hp (fun _ hk => hk) trivial (Below.refl _ _) (Nat.le_refl _) (by simp) ?_; (case hd => rfl); (case hg => rfl); (case hr => first | (go_simp; done) | (go_simp; rfl)); (case hp => exact (Reps.one (show Kd.M (Kd.int .i64) _ _ _ (-1) [.int .i64 (-1)] from rfl) (Reps.one (show Kd.M (Kd.int .i64) _ _ _ 7 [.int .i64 7] from rfl) (Reps.one (show Kd.M (Kd.int .i64) _ _ _ 8 [.int .i64 8] from rfl) (Reps.none _ _))))); intro gJ d9 da hb hg_ hnew_; clear hg_ hnew_; (first | rw [← dW.out] at da | (simp only [Int.reduceToNat] at da; rw [← dW.out] at da)); have bc := Aside0.mk (Kd.R_lower da (keep_size (w := w) (g := g) (row := none) (nK HK))); have bd := Aside0.mk (IsS74.below (IsS74.n) hb); have bf := nblk ba hb; have bg := nblk bb hb; have bh := Aside0.mk (KeepBut.trans (nK HK) (KeepBut.of_below hb g none) (.inl rfl)); have bi := Aside0.mk (below_step (IsS74.nb) hb); clear HI0 ba bb HK HB; have b3 := bc; have HI0 := bd; have ba := bf; have bb := bg; have HK := bh; have HB := bi; clear bc bd bf bg bh bi; clear hb da; obtain ⟨ea, eb, ec⟩ := Kd.R_slice b3.out; subst ec) | ((with_reducible refine gate_callee (f := 59) rfl ?_); refine goesM (some 17) rfl rfl Tryz.func59 (by kernel_rfl) rfl #[.pointer (some ⟨g, 0, none⟩), .slice ea ds.length eb] rfl ?_; (with_reducible refine (spec_l1PickInt.calls g s0_0 bu bv _ _ ds dt dX dY w0 _ ?side1 ?side2 ?side3 ?side4 ?side5 A16.out).mono ?_); (case side1 => exact IsS74.n); (case side2 => exact IsS74.nb); (case side3 => repeat (first | exact (Kd.R_reads' b3.out).2.2 | (with_reducible refine Kd.C_alloc ?_ _) | (with_reducible refine Kd.C_drewN ?_ _) | (with_reducible refine Kd.C_drew ?_))); (case side4 => exact (Kd.R_reads' b3.out).2.1); (case side5 => exact far_slice (IsS74.own_ne HI0.out b3.out (by decide))); rintro e ed ⟨rfl, hi, hb, hk⟩; refine ⟨_, rfl, ?_⟩; replace ba := Aside0.mk (KeepBut.blk hk (g' := bk) (o := .cells #[.int .i64 a1_0, .int .i64 a1_1, .int .i64 a1_2, .int .i64 a1_3, .int .i64 a1_4] 25 (0, 0)) (nb ba) bz.out (by simp)); replace bb := Aside0.mk (KeepBut.blk hk (g' := bj) (o := .cells #[.int .i64 0, .int .i64 0, .int .i64 0, .int .i64 0, .int .i64 0] 25 (0, 0)) (nb bb) bA.out (by simp)); replace b3 := Aside0.mk (Kd.R_mono (Kd.R_keep (IsS74.apart (show IsS74 w0 _ g s0_0 bu bv from IsS74.n) (nRo b3) (by decide)) hk (fun _ h => h.2)) (fun _ h => h.1)); replace HK := Aside0.mk (KeepBut.trans (nK HK) hk (.inl rfl)); replace HB := Aside0.mk (hb); replace HI0 := Aside0.mk (hi); (try clear hb); have ee := bV.out; have ef := bO.out; have eg := bz.out; have eh := bU.out; obtain ⟨ei, ej, ek, el, em⟩ := c5e ba; obtain ⟨en, eo, ep, er, es⟩ := z5_ ba; have gK := bA.out; have gL := bW.out; obtain ⟨et, eu, ev, ew, ex⟩ := c5e bb; obtain ⟨ey, ez, eA, eB, eC⟩ := z5_ bb))
      refine bodyPost_ret (results_cell_row rfl _ _ bj 25 #[.int .i64 a1_0, .int .i64 dt, .int .i64 a1_2, .int .i64 a1_3, .int .i64 a1_4] (0, 0) _ rfl (p5 bb (k1_ bO.out (nb bb))) Tryz.underlying25 rfl (by kernel_rfl)) rfl ?_; exact ⟨er_, IsS74.n, IsS74.nb, nK HK⟩
    · rw [if_neg c15] at H
      have c15b0 : (br == 1) = false := beq_eq_false_iff_ne.mpr c15; have c15b1 : (br != 1) = true := bne_iff_ne.mpr c15
      by_cases c29 : br = 2
      · rw [if_pos c29] at H
        have c29b0 : (br == 2) = true := beq_iff_eq.mpr c29; have c29b1 : (br != 2) = false := bne_eq_false_iff_eq.mpr c29; clear c29; obtain ⟨du, db⟩ : ∃ y_ : List Int, y_ = (([(-1), 7, 8] : List Int)) := ⟨_, rfl⟩; replace H : ((spec_l1PickInt.f s0_0 bu bv du).bind fun bE => (some (a1_0, a1_1, bE.1, a1_3, a1_4, bE.2.1, bE.2.2))) = some (r1, r2, r3, r4, r5, r6, r7) := by first | (rw [db]; with_reducible exact H) | (have H2_ := (Option.bind_some _ _).symm.trans H; rw [db]; with_reducible exact H2_) | (have H2_ := (Option.bind_some _ _).symm.trans H; with_reducible exact H2_) | with_reducible exact H | (rw [db]; exact H) | exact H
        have dZ := Aside0.mk db; clear db; replace H := Option.bind_eq_some_iff.mp H; obtain ⟨⟨dv, d0, d1⟩, A300, H⟩ := H; replace H : (some (a1_0, a1_1, dv, a1_3, a1_4, d0, d1)) = some (r1, r2, r3, r4, r5, r6, r7) := H; have A30 := Aside0.mk A300; clear A300; simp only [Option.some.injEq, Prod.mk.injEq] at H; obtain ⟨rfl, rfl, rfl, rfl, rfl, rfl, rfl⟩ := H
        go_enter Tryz.func48, Tryz.ntmps48
        go_wp2_with (first | ((with_reducible refine gate_dst (N := 3) rfl ?_); refine bxe 3 #[.int .i64 a1_0, .int .i64 a1_1, .int .i64 a1_2, .int .i64 a1_3, .int .i64 a1_4] 25 ?_; intro bk hg gM hbox hb; have bc := Aside0.mk (IsS74.below (IsS74.n) hb); have bd := Aside0.mk (KeepBut.trans (nK HK) (KeepBut.of_below hb g none) (.inl rfl)); have bf := Aside0.mk (below_step (IsS74.nb) hb); have bg := hbox; have bh := Aside0.mk ((by rw [hg]; exact (keep_size (w := w) (g := g) (row := none) (nK HK)) : w.heap.size ≤ bk)); have bi := Aside0.mk ((Nat.le_trans HW0.out (by rw [hg]; exact (keep_size (w := w) (g := g) (row := none) (nK HK)) : w.heap.size ≤ bk) : w0.heap.size ≤ bk)); have bn := Aside0.mk ((by rw [hg]; exact Nat.ne_of_lt (IsS74.lt (show IsS74 w0 _ g s0_0 s0_1 s0_2 from IsS74.n)) : g ≠ bk)); have bo := Aside0.mk ((by rw [hg]; exact Nat.ne_of_gt (IsS74.lt (show IsS74 w0 _ g s0_0 s0_1 s0_2 from IsS74.n)) : bk ≠ g)); clear HI0 HK HB; have HI0 := bc; have HK := bd; have HB := bf; have ba := bg; have dk := bh; have dl := bi; have bU := bn; have bz := bo; clear bc bd bf bg bh bi bn bo; clear hb hbox hg) | ((with_reducible refine gate_dst (N := 4) rfl ?_); refine bxe 4 #[.int .i64 0, .int .i64 0, .int .i64 0, .int .i64 0, .int .i64 0] 25 ?_; intro bj hg gN hbox hb; have bc := Aside0.mk (IsS74.below (IsS74.n) hb); have bd := nblk ba hb; have bf := Aside0.mk (KeepBut.trans (nK HK) (KeepBut.of_below hb g none) (.inl rfl)); have bg := Aside0.mk (below_step (IsS74.nb) hb); have bh := hbox; have bi := Aside0.mk ((by rw [hg]; exact (keep_size (w := w) (g := g) (row := none) (nK HK)) : w.heap.size ≤ bj)); have bn := Aside0.mk ((Nat.le_trans HW0.out (by rw [hg]; exact (keep_size (w := w) (g := g) (row := none) (nK HK)) : w.heap.size ≤ bj) : w0.heap.size ≤ bj)); have bo := nlt ba hg; have bw := ngt ba hg; have bx := Aside0.mk ((by rw [hg]; exact Nat.ne_of_lt (IsS74.lt (show IsS74 w0 _ g s0_0 s0_1 s0_2 from IsS74.n)) : g ≠ bj)); have bH := Aside0.mk ((by rw [hg]; exact Nat.ne_of_gt (IsS74.lt (show IsS74 w0 _ g s0_0 s0_1 s0_2 from IsS74.n)) : bj ≠ g)); clear HI0 ba HK HB; have HI0 := bc; have ba := bd; have HK := bf; have HB := bg; have bb := bh; have dm := bi; have dn := bn; have bV := bo; have bO := bw; have bW := bx; have bA := bH; clear bc bd bf bg bh bi bn bo bw bx bH; clear hb hbox hg) | ((with_reducible refine gate_callee (f := 57) rfl ?_); refine goesM (some 6) rfl rfl Tryz.func57 (by kernel_rfl) rfl #[.pointer (some ⟨g, 0, none⟩), .int .i64 7] rfl ?_; (with_reducible refine (spec_l1Below.calls g s0_0 s0_1 s0_2 7 br bu bv w0 _ ?side1 ?side2 A3.out).mono ?_); (case side1 => exact IsS74.n); (case side2 => exact IsS74.nb); rintro e gO ⟨rfl, hi, hb, hk⟩; refine ⟨_, rfl, ?_⟩; replace ba := Aside0.mk (KeepBut.blk hk (g' := bk) (o := .cells #[.int .i64 a1_0, .int .i64 a1_1, .int .i64 a1_2, .int .i64 a1_3, .int .i64 a1_4] 25 (0, 0)) (nb ba) bz.out (by simp)); replace bb := Aside0.mk (KeepBut.blk hk (g' := bj) (o := .cells #[.int .i64 0, .int .i64 0, .int .i64 0, .int .i64 0, .int .i64 0] 25 (0, 0)) (nb bb) bA.out (by simp)); replace HK := Aside0.mk (KeepBut.trans (nK HK) hk (.inl rfl)); replace HB := Aside0.mk (hb); replace HI0 := Aside0.mk (hi); (try clear hb)) | ((with_reducible refine gate_dst (N := 22) rfl ?_); refine Kd.R_lit (Kd.int .i64) _ 3 ?hg (N := 22) ?hd (xs := ([(-1), 7, 8] : List Int)) (inner := [.int .i64 (-1), .int .i64 7, .int .i64 8]) (ok := fun _ => True) (okp := fun _ => True) ?hr ?hp (fun _ hk => hk) trivial (Below.refl _ _) (Nat.le_refl _) (by simp) ?_; (case hd => rfl); (case hg => rfl); (case hr => first | (go_simp; done) | (go_simp; rfl)); (case hp => exact (Reps.one (show Kd.M (Kd.int .i64) _ _ _ (-1) [.int .i64 (-1)] from rfl) (Reps.one (show Kd.M (Kd.int .i64) _ _ _ 7 [.int .i64 7] from rfl) (Reps.one (show Kd.M (Kd.int .i64) _ _ _ 8 [.int .i64 8] from rfl) (Reps.none _ _))))); intro gP gQ dc hb hg_ hnew_; clear hg_ hnew_; (first | rw [← dZ.out] at dc | (simp only [Int.reduceToNat] at dc; rw [← dZ.out] at dc)); have bc := Aside0.mk (Kd.R_lower dc (keep_size (w := w) (g := g) (row := none) (nK HK))); have bd := Aside0.mk (IsS74.below (IsS74.n) hb); have bf := nblk ba hb; have bg := nblk bb hb; have bh := Aside0.mk (KeepBut.trans (nK HK) (KeepBut.of_below hb g none) (.inl rfl)); have bi := Aside0.mk (below_step (IsS74.nb) hb); clear HI0 ba bb HK HB; have b4 := bc; have HI0 := bd; have ba := bf; have bb := bg; have HK := bh; have HB := bi; clear bc bd bf bg bh bi; clear hb dc; obtain ⟨eD, eE, eF⟩ := Kd.R_slice b4.out; subst eF) | ((with_reducible refine gate_callee (f := 59) rfl ?_); refine goesM (some 23) rfl rfl Tryz.func59 (by kernel_rfl) rfl #[.pointer (some ⟨g, 0, none⟩), .slice eD du.length eE] rfl ?_; (with_reducible refine (spec_l1PickInt.calls g s0_0 bu bv _ _ du dv d0 d1 w0 _ ?side1 ?side2 ?side3 ?side4 ?side5 A30.out).mono ?_); (case side1 => exact IsS74.n); (case side2 => exact IsS74.nb); (case side3 => repeat (first | exact (Kd.R_reads' b4.out).2.2 | (with_reducible refine Kd.C_alloc ?_ _) | (with_reducible refine Kd.C_drewN ?_ _) | (with_reducible refine Kd.C_drew ?_))); (case side4 => exact (Kd.R_reads' b4.out).2.1); (case side5 => exact far_slice (IsS74.own_ne HI0.out b4.out (by decide))); rintro e gR ⟨rfl, hi, hb, hk⟩; refine ⟨_, rfl, ?_⟩; replace ba := Aside0.mk (KeepBut.blk hk (g' := bk) (o := .cells #[.int .i64 a1_0, .int .i64 a1_1, .int .i64 a1_2, .int .i64 a1_3, .int .i64 a1_4] 25 (0, 0)) (nb ba) bz.out (by simp)); replace bb := Aside0.mk (KeepBut.blk hk (g' := bj) (o := .cells #[.int .i64 0, .int .i64 0, .int .i64 0, .int .i64 0, .int .i64 0] 25 (0, 0)) (nb bb) bA.out (by simp)); replace b4 := Aside0.mk (Kd.R_mono (Kd.R_keep (IsS74.apart (show IsS74 w0 _ g s0_0 bu bv from IsS74.n) (nRo b4) (by decide)) hk (fun _ h => h.2)) (fun _ h => h.1)); replace HK := Aside0.mk (KeepBut.trans (nK HK) hk (.inl rfl)); replace HB := Aside0.mk (hb); replace HI0 := Aside0.mk (hi); (try clear hb); have gS := bV.out; have gT := bO.out; have gU := bz.out; have gV := bU.out; obtain ⟨gW, gX, gY, gZ, g0⟩ := c5e ba; obtain ⟨g1, g2, g3, g4, g5⟩ := z5_ ba; have g6 := bA.out; have g7 := bW.out; obtain ⟨g8, g9, ha, hf, hh⟩ := c5e bb; obtain ⟨hl, hm, hn, ho, hq⟩ := z5_ bb))
        refine bodyPost_ret (results_cell_row rfl _ _ bj 25 #[.int .i64 a1_0, .int .i64 a1_1, .int .i64 dv, .int .i64 a1_3, .int .i64 a1_4] (0, 0) _ rfl (p5 bb (k1_ bO.out (nb bb))) Tryz.underlying25 rfl (by kernel_rfl)) rfl ?_; exact ⟨er_, IsS74.n, IsS74.nb, nK HK⟩
      · rw [if_neg c29] at H
        have c29b0 : (br == 2) = false := beq_eq_false_iff_ne.mpr c29; have c29b1 : (br != 2) = true := bne_iff_ne.mpr c29
        by_cases c43 : br = 3
        · rw [if_pos c43] at H
          have c43b0 : (br == 3) = true := beq_iff_eq.mpr c43; have c43b1 : (br != 3) = false := bne_eq_false_iff_eq.mpr c43; clear c43; obtain ⟨dw, dd⟩ : ∃ y_ : List Int, y_ = (([(-128), (-129), 127, 128] : List Int)) := ⟨_, rfl⟩; replace H : ((spec_l1PickInt.f s0_0 bu bv dw).bind fun bF => (some (a1_0, a1_1, a1_2, a1_3, bF.1, bF.2.1, bF.2.2))) = some (r1, r2, r3, r4, r5, r6, r7) := by first | (rw [dd]; with_reducible exact H) | (have H2_ := (Option.bind_some _ _).symm.trans H; rw [dd]; with_reducible exact H2_) | (have H2_ := (Option.bind_some _ _).symm.trans H; with_reducible exact H2_) | with_reducible exact H | (rw [dd]; exact H) | exact H
          have d2 := Aside0.mk dd; clear dd; replace H := Option.bind_eq_some_iff.mp H; obtain ⟨⟨dx, d3, d4⟩, A440, H⟩ := H; replace H : (some (a1_0, a1_1, a1_2, a1_3, dx, d3, d4)) = some (r1, r2, r3, r4, r5, r6, r7) := H; have A44 := Aside0.mk A440; clear A440; simp only [Option.some.injEq, Prod.mk.injEq] at H; obtain ⟨rfl, rfl, rfl, rfl, rfl, rfl, rfl⟩ := H
          go_enter Tryz.func48, Tryz.ntmps48
          go_wp2_with (first | ((with_reducible refine gate_dst (N := 3) rfl ?_); refine bxe 3 #[.int .i64 a1_0, .int .i64 a1_1, .int .i64 a1_2, .int .i64 a1_3, .int .i64 a1_4] 25 ?_; intro bk hg ht hbox hb; have bc := Aside0.mk (IsS74.below (IsS74.n) hb); have bd := Aside0.mk (KeepBut.trans (nK HK) (KeepBut.of_below hb g none) (.inl rfl)); have bf := Aside0.mk (below_step (IsS74.nb) hb); have bg := hbox; have bh := Aside0.mk ((by rw [hg]; exact (keep_size (w := w) (g := g) (row := none) (nK HK)) : w.heap.size ≤ bk)); have bi := Aside0.mk ((Nat.le_trans HW0.out (by rw [hg]; exact (keep_size (w := w) (g := g) (row := none) (nK HK)) : w.heap.size ≤ bk) : w0.heap.size ≤ bk)); have bn := Aside0.mk ((by rw [hg]; exact Nat.ne_of_lt (IsS74.lt (show IsS74 w0 _ g s0_0 s0_1 s0_2 from IsS74.n)) : g ≠ bk)); have bo := Aside0.mk ((by rw [hg]; exact Nat.ne_of_gt (IsS74.lt (show IsS74 w0 _ g s0_0 s0_1 s0_2 from IsS74.n)) : bk ≠ g)); clear HI0 HK HB; have HI0 := bc; have HK := bd; have HB := bf; have ba := bg; have dk := bh; have dl := bi; have bU := bn; have bz := bo; clear bc bd bf bg bh bi bn bo; clear hb hbox hg) | ((with_reducible refine gate_dst (N := 4) rfl ?_); refine bxe 4 #[.int .i64 0, .int .i64 0, .int .i64 0, .int .i64 0, .int .i64 0] 25 ?_; intro bj hg hv hbox hb; have bc := Aside0.mk (IsS74.below (IsS74.n) hb); have bd := nblk ba hb; have bf := Aside0.mk (KeepBut.trans (nK HK) (KeepBut.of_below hb g none) (.inl rfl)); have bg := Aside0.mk (below_step (IsS74.nb) hb); have bh := hbox; have bi := Aside0.mk ((by rw [hg]; exact (keep_size (w := w) (g := g) (row := none) (nK HK)) : w.heap.size ≤ bj)); have bn := Aside0.mk ((Nat.le_trans HW0.out (by rw [hg]; exact (keep_size (w := w) (g := g) (row := none) (nK HK)) : w.heap.size ≤ bj) : w0.heap.size ≤ bj)); have bo := nlt ba hg; have bw := ngt ba hg; have bx := Aside0.mk ((by rw [hg]; exact Nat.ne_of_lt (IsS74.lt (show IsS74 w0 _ g s0_0 s0_1 s0_2 from IsS74.n)) : g ≠ bj)); have bH := Aside0.mk ((by rw [hg]; exact Nat.ne_of_gt (IsS74.lt (show IsS74 w0 _ g s0_0 s0_1 s0_2 from IsS74.n)) : bj ≠ g)); clear HI0 ba HK HB; have HI0 := bc; have ba := bd; have HK := bf; have HB := bg; have bb := bh; have dm := bi; have dn := bn; have bV := bo; have bO := bw; have bW := bx; have bA := bH; clear bc bd bf bg bh bi bn bo bw bx bH; clear hb hbox hg) | ((with_reducible refine gate_callee (f := 57) rfl ?_); refine goesM (some 6) rfl rfl Tryz.func57 (by kernel_rfl) rfl #[.pointer (some ⟨g, 0, none⟩), .int .i64 7] rfl ?_; (with_reducible refine (spec_l1Below.calls g s0_0 s0_1 s0_2 7 br bu bv w0 _ ?side1 ?side2 A3.out).mono ?_); (case side1 => exact IsS74.n); (case side2 => exact IsS74.nb); rintro e hw ⟨rfl, hi, hb, hk⟩; refine ⟨_, rfl, ?_⟩; replace ba := Aside0.mk (KeepBut.blk hk (g' := bk) (o := .cells #[.int .i64 a1_0, .int .i64 a1_1, .int .i64 a1_2, .int .i64 a1_3, .int .i64 a1_4] 25 (0, 0)) (nb ba) bz.out (by simp)); replace bb := Aside0.mk (KeepBut.blk hk (g' := bj) (o := .cells #[.int .i64 0, .int .i64 0, .int .i64 0, .int .i64 0, .int .i64 0] 25 (0, 0)) (nb bb) bA.out (by simp)); replace HK := Aside0.mk (KeepBut.trans (nK HK) hk (.inl rfl)); replace HB := Aside0.mk (hb); replace HI0 := Aside0.mk (hi); (try clear hb)) | ((with_reducible refine gate_dst (N := 28) rfl ?_); refine Kd.R_lit (Kd.int .i64) _ 3 ?hg (N := 28) ?hd (xs := ([(-128), (-129), 127, 128] : List Int)) (inner := [.int .i64 (-128), .int .i64 (-129), .int .i64 127, .int .i64 128]) (ok := fun _ => True) (okp := fun _ => True) ?hr ?hp (fun _ hk => hk) trivial (Below.refl _ _) (Nat.le_refl _) (by simp) ?_; (case hd => rfl); (case hg => rfl); (case hr => first | (go_simp; done) | (go_simp; rfl)); (case hp => exact (Reps.one (show Kd.M (Kd.int .i64) _ _ _ (-128) [.int .i64 (-128)] from rfl) (Reps.one (show Kd.M (Kd.int .i64) _ _ _ (-129) [.int .i64 (-129)] from rfl) (Reps.one (show Kd.M (Kd.int .i64) _ _ _ 127 [.int .i64 127] from rfl) (Reps.one (show Kd.M (Kd.int .i64) _ _ _ 128 [.int .i64 128] from rfl) (Reps.none _ _)))))); intro hx hy de hb hg_ hnew_; clear hg_ hnew_; (first | rw [← d2.out] at de | (simp only [Int.reduceToNat] at de; rw [← d2.out] at de)); have bc := Aside0.mk (Kd.R_lower de (keep_size (w := w) (g := g) (row := none) (nK HK))); have bd := Aside0.mk (IsS74.below (IsS74.n) hb); have bf := nblk ba hb; have bg := nblk bb hb; have bh := Aside0.mk (KeepBut.trans (nK HK) (KeepBut.of_below hb g none) (.inl rfl)); have bi := Aside0.mk (below_step (IsS74.nb) hb); clear HI0 ba bb HK HB; have b5 := bc; have HI0 := bd; have ba := bf; have bb := bg; have HK := bh; have HB := bi; clear bc bd bf bg bh bi; clear hb de; obtain ⟨eG, eH, eI⟩ := Kd.R_slice b5.out; subst eI) | ((with_reducible refine gate_callee (f := 59) rfl ?_); refine goesM (some 29) rfl rfl Tryz.func59 (by kernel_rfl) rfl #[.pointer (some ⟨g, 0, none⟩), .slice eG dw.length eH] rfl ?_; (with_reducible refine (spec_l1PickInt.calls g s0_0 bu bv _ _ dw dx d3 d4 w0 _ ?side1 ?side2 ?side3 ?side4 ?side5 A44.out).mono ?_); (case side1 => exact IsS74.n); (case side2 => exact IsS74.nb); (case side3 => repeat (first | exact (Kd.R_reads' b5.out).2.2 | (with_reducible refine Kd.C_alloc ?_ _) | (with_reducible refine Kd.C_drewN ?_ _) | (with_reducible refine Kd.C_drew ?_))); (case side4 => exact (Kd.R_reads' b5.out).2.1); (case side5 => exact far_slice (IsS74.own_ne HI0.out b5.out (by decide))); rintro e hz ⟨rfl, hi, hb, hk⟩; refine ⟨_, rfl, ?_⟩; replace ba := Aside0.mk (KeepBut.blk hk (g' := bk) (o := .cells #[.int .i64 a1_0, .int .i64 a1_1, .int .i64 a1_2, .int .i64 a1_3, .int .i64 a1_4] 25 (0, 0)) (nb ba) bz.out (by simp)); replace bb := Aside0.mk (KeepBut.blk hk (g' := bj) (o := .cells #[.int .i64 0, .int .i64 0, .int .i64 0, .int .i64 0, .int .i64 0] 25 (0, 0)) (nb bb) bA.out (by simp)); replace b5 := Aside0.mk (Kd.R_mono (Kd.R_keep (IsS74.apart (show IsS74 w0 _ g s0_0 bu bv from IsS74.n) (nRo b5) (by decide)) hk (fun _ h => h.2)) (fun _ h => h.1)); replace HK := Aside0.mk (KeepBut.trans (nK HK) hk (.inl rfl)); replace HB := Aside0.mk (hb); replace HI0 := Aside0.mk (hi); (try clear hb); have hA := bV.out; have hC := bO.out; have hD := bz.out; have hE := bU.out; obtain ⟨hF, hG, hH, hJ, hK⟩ := c5e ba; obtain ⟨hL, hM, hN, hO, hQ⟩ := z5_ ba; have hR := bA.out; have hS := bW.out; obtain ⟨hT, hU, hV, hW, hX⟩ := c5e bb; obtain ⟨hY, hZ, h0, h6, h7⟩ := z5_ bb))
          refine bodyPost_ret (results_cell_row rfl _ _ bj 25 #[.int .i64 a1_0, .int .i64 a1_1, .int .i64 a1_2, .int .i64 a1_3, .int .i64 dx] (0, 0) _ rfl (p5 bb (k1_ bO.out (nb bb))) Tryz.underlying25 rfl (by kernel_rfl)) rfl ?_; exact ⟨er_, IsS74.n, IsS74.nb, nK HK⟩
        · rw [if_neg c43] at H
          have c43b0 : (br == 3) = false := beq_eq_false_iff_ne.mpr c43; have c43b1 : (br != 3) = true := bne_iff_ne.mpr c43; simp only [Option.some.injEq, Prod.mk.injEq] at H; obtain ⟨rfl, rfl, rfl, rfl, rfl, rfl, rfl⟩ := H
          go_enter Tryz.func48, Tryz.ntmps48
          go_wp2_with (first | ((with_reducible refine gate_dst (N := 3) rfl ?_); refine bxe 3 #[.int .i64 a1_0, .int .i64 a1_1, .int .i64 a1_2, .int .i64 a1_3, .int .i64 a1_4] 25 ?_; intro bk hg h8 hbox hb; have bc := Aside0.mk (IsS74.below (IsS74.n) hb); have bd := Aside0.mk (KeepBut.trans (nK HK) (KeepBut.of_below hb g none) (.inl rfl)); have bf := Aside0.mk (below_step (IsS74.nb) hb); have bg := hbox; have bh := Aside0.mk ((by rw [hg]; exact (keep_size (w := w) (g := g) (row := none) (nK HK)) : w.heap.size ≤ bk)); have bi := Aside0.mk ((Nat.le_trans HW0.out (by rw [hg]; exact (keep_size (w := w) (g := g) (row := none) (nK HK)) : w.heap.size ≤ bk) : w0.heap.size ≤ bk)); have bn := Aside0.mk ((by rw [hg]; exact Nat.ne_of_lt (IsS74.lt (show IsS74 w0 _ g s0_0 s0_1 s0_2 from IsS74.n)) : g ≠ bk)); have bo := Aside0.mk ((by rw [hg]; exact Nat.ne_of_gt (IsS74.lt (show IsS74 w0 _ g s0_0 s0_1 s0_2 from IsS74.n)) : bk ≠ g)); clear HI0 HK HB; have HI0 := bc; have HK := bd; have HB := bf; have ba := bg; have dk := bh; have dl := bi; have bU := bn; have bz := bo; clear bc bd bf bg bh bi bn bo; clear hb hbox hg) | ((with_reducible refine gate_dst (N := 4) rfl ?_); refine bxe 4 #[.int .i64 0, .int .i64 0, .int .i64 0, .int .i64 0, .int .i64 0] 25 ?_; intro bj hg h9 hbox hb; have bc := Aside0.mk (IsS74.below (IsS74.n) hb); have bd := nblk ba hb; have bf := Aside0.mk (KeepBut.trans (nK HK) (KeepBut.of_below hb g none) (.inl rfl)); have bg := Aside0.mk (below_step (IsS74.nb) hb); have bh := hbox; have bi := Aside0.mk ((by rw [hg]; exact (keep_size (w := w) (g := g) (row := none) (nK HK)) : w.heap.size ≤ bj)); have bn := Aside0.mk ((Nat.le_trans HW0.out (by rw [hg]; exact (keep_size (w := w) (g := g) (row := none) (nK HK)) : w.heap.size ≤ bj) : w0.heap.size ≤ bj)); have bo := nlt ba hg; have bw := ngt ba hg; have bx := Aside0.mk ((by rw [hg]; exact Nat.ne_of_lt (IsS74.lt (show IsS74 w0 _ g s0_0 s0_1 s0_2 from IsS74.n)) : g ≠ bj)); have bH := Aside0.mk ((by rw [hg]; exact Nat.ne_of_gt (IsS74.lt (show IsS74 w0 _ g s0_0 s0_1 s0_2 from IsS74.n)) : bj ≠ g)); clear HI0 ba HK HB; have HI0 := bc; have ba := bd; have HK := bf; have HB := bg; have bb := bh; have dm := bi; have dn := bn; have bV := bo; have bO := bw; have bW := bx; have bA := bH; clear bc bd bf bg bh bi bn bo bw bx bH; clear hb hbox hg) | ((with_reducible refine gate_callee (f := 57) rfl ?_); refine goesM (some 6) rfl rfl Tryz.func57 (by kernel_rfl) rfl #[.pointer (some ⟨g, 0, none⟩), .int .i64 7] rfl ?_; (with_reducible refine (spec_l1Below.calls g s0_0 s0_1 s0_2 7 br bu bv w0 _ ?side1 ?side2 A3.out).mono ?_); (case side1 => exact IsS74.n); (case side2 => exact IsS74.nb); rintro e ia ⟨rfl, hi, hb, hk⟩; refine ⟨_, rfl, ?_⟩; replace ba := Aside0.mk (KeepBut.blk hk (g' := bk) (o := .cells #[.int .i64 a1_0, .int .i64 a1_1, .int .i64 a1_2, .int .i64 a1_3, .int .i64 a1_4] 25 (0, 0)) (nb ba) bz.out (by simp)); replace bb := Aside0.mk (KeepBut.blk hk (g' := bj) (o := .cells #[.int .i64 0, .int .i64 0, .int .i64 0, .int .i64 0, .int .i64 0] 25 (0, 0)) (nb bb) bA.out (by simp)); replace HK := Aside0.mk (KeepBut.trans (nK HK) hk (.inl rfl)); replace HB := Aside0.mk (hb); replace HI0 := Aside0.mk (hi); (try clear hb); have ib := bV.out; have ic := bO.out; have ig := bz.out; have ih := bU.out; obtain ⟨ii, ij, ik, il, im⟩ := c5e ba; obtain ⟨io, ip, iq, ir, iu⟩ := z5_ ba; have iv := bA.out; have iw := bW.out; obtain ⟨ix, iy, iz, iA, iB⟩ := c5e bb; obtain ⟨iC, iD, iE, iF, iG⟩ := z5_ bb))
          refine bodyPost_ret (results_cell_row rfl _ _ bj 25 #[.int .i64 a1_0, .int .i64 a1_1, .int .i64 a1_2, .int .i64 a1_3, .int .i64 a1_4] (0, 0) _ rfl (q5 bb) Tryz.underlying25 rfl (by kernel_rfl)) rfl ?_; exact ⟨er_, IsS74.n, IsS74.nb, nK HK⟩

/-! ### spec_l6DrawOne: function 20 -/
def spec_l6DrawOne.f (k : Nat) (l0 : List Int) : Option (Int × Int × Int × Int × Int) := (spec_l1New.f k l0).bind fun bR => ((spec_l6DrawIns.f k bR.1 bR.2.1 bR.2.2).bind fun bl => ((spec_l1Once.f bR.1 bl.2.2.2.2.2.1 bl.2.2.2.2.2.2 2).bind fun bG => (if bG.1 = true then ((spec_l6Spoil.f bR.1 bG.2.1 bG.2.2 bl.1 bl.2.1 bl.2.2.1 bl.2.2.2.1 bl.2.2.2.2.1).bind fun bp => (some (bp.1, bp.2.1, bp.2.2.1, bp.2.2.2.1, bp.2.2.2.2.1))) else (some (bl.1, bl.2.1, bl.2.2.1, bl.2.2.2.1, bl.2.2.2.2.1)))))
theorem spec_l6DrawOne.mono : ∀ a0 k, LeO (spec_l6DrawOne.f k a0) (spec_l6DrawOne.f (k + 1) a0) := by
  intro a0 k
  unfold spec_l6DrawOne.f
  repeat' first
      | (with_reducible exact spec_l1New.mono _ _)
      | (with_reducible exact spec_l6DrawIns.mono _ _ _ _)
      | (with_reducible exact LeO.refl _)
      | (with_reducible exact LeO.none _)
      | (with_reducible refine LeO.ite ?_ ?_)
      | (with_reducible refine LeO.bind ?_ (fun _ => ?_))
      | exact spec_l1New.mono _ _
      | exact spec_l6DrawIns.mono _ _ _ _
      | exact LeO.none _
      | refine LeO.ite ?_ ?_
      | refine LeO.bind ?_ (fun _ => ?_)
set_option maxHeartbeats 8000000 in
set_option maxRecDepth 100000 in
theorem spec_l6DrawOne.calls (k : Nat) (A0 : Option Addr) (c0 : Nat) (l0 : List Int) (r1 : Int) (r2 : Int) (r3 : Int) (r4 : Int) (r5 : Int) (w : World) (hr0 : Kd.C (Kd.int .u8) w A0 l0.length l0) (hc0 : l0.length ≤ c0) (h : spec_l6DrawOne.f k l0 = some (r1, r2, r3, r4, r5)) :
    Calls Tryz.prog 20 #[.slice A0 l0.length c0] w fun e w' => e = .returned (.agg #[.int .i64 r1, .int .i64 r2, .int .i64 r3, .int .i64 r4, .int .i64 r5]) ∧ Below w.heap.size w w' := by
  have hu25 := Tryz.underlying25; have bX := Aside0.mk hr0; have b2 := Aside0.mk hc0; clear hr0 hc0; have HB := Aside0.mk (Below.refl w.heap.size w); have H : ((spec_l1New.f k l0).bind fun bR => ((spec_l6DrawIns.f k bR.1 bR.2.1 bR.2.2).bind fun bl => ((spec_l1Once.f bR.1 bl.2.2.2.2.2.1 bl.2.2.2.2.2.2 2).bind fun bG => (if bG.1 = true then ((spec_l6Spoil.f bR.1 bG.2.1 bG.2.2 bl.1 bl.2.1 bl.2.2.1 bl.2.2.2.1 bl.2.2.2.2.1).bind fun bp => (some (bp.1, bp.2.1, bp.2.2.1, bp.2.2.2.1, bp.2.2.2.2.1))) else (some (bl.1, bl.2.1, bl.2.2.1, bl.2.2.2.1, bl.2.2.2.2.1)))))) = some (r1, r2, r3, r4, r5) := h; clear h; replace H := Option.bind_eq_some_iff.mp H; obtain ⟨⟨bB, df, dg⟩, A20, H⟩ := H; replace H : ((spec_l6DrawIns.f k bB df dg).bind fun bl => ((spec_l1Once.f bB bl.2.2.2.2.2.1 bl.2.2.2.2.2.2 2).bind fun bG => (if bG.1 = true then ((spec_l6Spoil.f bB bG.2.1 bG.2.2 bl.1 bl.2.1 bl.2.2.1 bl.2.2.2.1 bl.2.2.2.2.1).bind fun bp => (some (bp.1, bp.2.1, bp.2.2.1, bp.2.2.2.1, bp.2.2.2.2.1))) else (some (bl.1, bl.2.1, bl.2.2.1, bl.2.2.2.1, bl.2.2.2.2.1))))) = some (r1, r2, r3, r4, r5) := H; have A2 := Aside0.mk A20; clear A20; replace H := Option.bind_eq_some_iff.mp H; obtain ⟨⟨bI, bJ, bK, bL, bM, bY, bZ⟩, A30, H⟩ := H; replace H : ((spec_l1Once.f bB bY bZ 2).bind fun bG => (if bG.1 = true then ((spec_l6Spoil.f bB bG.2.1 bG.2.2 bI bJ bK bL bM).bind fun bp => (some (bp.1, bp.2.1, bp.2.2.1, bp.2.2.2.1, bp.2.2.2.2.1))) else (some (bI, bJ, bK, bL, bM)))) = some (r1, r2, r3, r4, r5) := H; have A3 := Aside0.mk A30; clear A30; replace H := Option.bind_eq_some_iff.mp H; obtain ⟨⟨d5, dh, di⟩, A40, H⟩ := H; replace H : (if d5 = true then ((spec_l6Spoil.f bB dh di bI bJ bK bL bM).bind fun bp => (some (bp.1, bp.2.1, bp.2.2.1, bp.2.2.2.1, bp.2.2.2.2.1))) else (some (bI, bJ, bK, bL, bM))) = some (r1, r2, r3, r4, r5) := H; have A4 := Aside0.mk A40; clear A40
  by_cases c5 : d5 = true
  · subst c5
    have H1 : ((spec_l6Spoil.f bB dh di bI bJ bK bL bM).bind fun bp => (some (bp.1, bp.2.1, bp.2.2.1, bp.2.2.2.1, bp.2.2.2.2.1))) = some (r1, r2, r3, r4, r5) := by rw [if_pos rfl] at H; exact H
    clear H; have H := H1; clear H1; replace H := Option.bind_eq_some_iff.mp H; obtain ⟨⟨dy, dz, dA, dB, dC, eJ, eK⟩, A60, H⟩ := H; replace H : (some (dy, dz, dA, dB, dC)) = some (r1, r2, r3, r4, r5) := H; have A6 := Aside0.mk A60; clear A60; simp only [Option.some.injEq, Prod.mk.injEq] at H; obtain ⟨rfl, rfl, rfl, rfl, rfl⟩ := H
    go_enter Tryz.func20, Tryz.ntmps20
    go_wp2_with (first | ((with_reducible refine gate_dst (N := 2) rfl ?_); refine bxe 2 #[.int .i64 0, .int .i64 0, .int .i64 0, .int .i64 0, .int .i64 0] 25 ?_; intro bN hg w7 hbox hb; have bm := hbox; have eL := nge HB hg; have eM := nge HB hg; replace HB := nbs HB hb; clear hb hbox hg) | ((with_reducible refine gate_callee (f := 36) rfl ?_); refine goesM (some 6) rfl rfl Tryz.func36 (by kernel_rfl) rfl #[.slice A0 l0.length c0] rfl ?_; (with_reducible refine (spec_l1New.calls k _ _ l0 bB df dg w _ ?side1 ?side2 ?side3 A2.out).mono ?_); (case side1 => exact nbe HB); (case side2 => exact bX.out); (case side3 => exact b2.out); rintro e w8 ⟨g186, rfl, hi, hb, hb2⟩; refine ⟨_, rfl, ?_⟩; have HI186 := Aside0.mk (hi); have dD := Aside0.mk (IsS74.ne_blk hi (blk_below (g := bN) (o := .cells #[.int .i64 0, .int .i64 0, .int .i64 0, .int .i64 0, .int .i64 0] 25 (0, 0)) (nb bm) hb2) (by decide)); have b0 := Aside0.mk (Ne.symm (IsS74.ne_blk hi (blk_below (g := bN) (o := .cells #[.int .i64 0, .int .i64 0, .int .i64 0, .int .i64 0, .int .i64 0] 25 (0, 0)) (nb bm) hb2) (by decide))); replace bm := Aside0.mk (blk_below (g := bN) (o := .cells #[.int .i64 0, .int .i64 0, .int .i64 0, .int .i64 0, .int .i64 0] 25 (0, 0)) (nb bm) hb2); replace HB := Aside0.mk (hb); (try clear hb)) | ((with_reducible refine gate_callee (f := 38) rfl ?_); refine goesM (some 8) rfl rfl Tryz.func38 (by kernel_rfl) rfl #[.pointer (some ⟨g186, 0, none⟩)] rfl ?_; (with_reducible refine (spec_l6DrawIns.calls k g186 bB df dg bI bJ bK bL bM bY bZ w _ ?side1 ?side2 A3.out).mono ?_); (case side1 => exact IsS74.n); (case side2 => exact IsS74.nb); rintro e w9 ⟨rfl, hi, hb, hk⟩; refine ⟨_, rfl, ?_⟩; replace bm := Aside0.mk (KeepBut.blk hk (g' := bN) (o := .cells #[.int .i64 0, .int .i64 0, .int .i64 0, .int .i64 0, .int .i64 0] 25 (0, 0)) (nb bm) b0.out (by simp)); replace HB := Aside0.mk (hb); replace HI186 := Aside0.mk (hi); (try clear hb)) | ((with_reducible refine gate_dst (N := 4) rfl ?_); refine bxe 4 #[.int .i64 0, .int .i64 0, .int .i64 0, .int .i64 0, .int .i64 0] 25 ?_; intro bP hg eN hbox hb; have bc := nblk bm hb; have bd := Aside0.mk (IsS74.below (IsS74.n) hb); have bf := Aside0.mk (below_step (IsS74.nb) hb); have bg := hbox; have bh := Aside0.mk ((by rw [hg]; exact (below_size (IsS74.nb)) : w.heap.size ≤ bP)); have bi := Aside0.mk ((by rw [hg]; exact (below_size (IsS74.nb)) : w.heap.size ≤ bP)); have bn := nlt bm hg; have bo := ngt bm hg; have bw := Aside0.mk ((by rw [hg]; exact Nat.ne_of_lt (IsS74.lt (show IsS74 w _ g186 bB bY bZ from IsS74.n)) : g186 ≠ bP)); have bx := Aside0.mk ((by rw [hg]; exact Nat.ne_of_gt (IsS74.lt (show IsS74 w _ g186 bB bY bZ from IsS74.n)) : bP ≠ g186)); clear bm HI186 HB; have bm := bc; have HI186 := bd; have HB := bf; have bC := bg; have eO := bh; have eP := bi; have b6 := bn; have dE := bo; have dF := bw; have b7 := bx; clear bc bd bf bg bh bi bn bo bw bx; clear hb hbox hg; have d7 := dE.out; have d8 := b6.out; have iH := b7.out; have iI := dF.out; obtain ⟨eQ, eR, eS, eT, eU⟩ := c5e bC; obtain ⟨eV, eW, eX, eY, eZ⟩ := z5_ bC) | ((with_reducible refine gate_callee (f := 47) rfl ?_); refine goesM (some 10) rfl rfl Tryz.func47 (by kernel_rfl) rfl #[.pointer (some ⟨g186, 0, none⟩), .int .i64 2] rfl ?_; (with_reducible refine (spec_l1Once.calls g186 bB bY bZ 2 true dh di w _ ?side1 ?side2 A4.out).mono ?_); (case side1 => exact IsS74.n); (case side2 => exact IsS74.nb); rintro e iJ ⟨rfl, hi, hb, hk⟩; refine ⟨_, rfl, ?_⟩; replace bm := Aside0.mk (KeepBut.blk hk (g' := bN) (o := .cells #[.int .i64 0, .int .i64 0, .int .i64 0, .int .i64 0, .int .i64 0] 25 (0, 0)) (k5_ b6.out (nb bm)) b0.out (by simp)); replace bC := Aside0.mk (KeepBut.blk hk (g' := bP) (o := .cells #[.int .i64 bI, .int .i64 bJ, .int .i64 bK, .int .i64 bL, .int .i64 bM] 25 (0, 0)) (q5 bC) b7.out (by simp)); replace HB := Aside0.mk (hb); replace HI186 := Aside0.mk (hi); (try clear hb); obtain ⟨iK, iL, iM, iN, iO⟩ := c5e bC; obtain ⟨iP, iQ, iR, iS, iT⟩ := z5_ bC) | ((with_reducible refine gate_callee (f := 48) rfl ?_); refine goesM (some 13) rfl rfl Tryz.func48 (by kernel_rfl) rfl #[.pointer (some ⟨g186, 0, none⟩), .agg #[.int .i64 bI, .int .i64 bJ, .int .i64 bK, .int .i64 bL, .int .i64 bM]] rfl ?_; (with_reducible refine (spec_l6Spoil.calls g186 bB dh di bI bJ bK bL bM dy dz dA dB dC eJ eK w _ ?side1 ?side2 A6.out).mono ?_); (case side1 => exact IsS74.n); (case side2 => exact IsS74.nb); rintro e iU ⟨rfl, hi, hb, hk⟩; refine ⟨_, rfl, ?_⟩; replace bm := Aside0.mk (KeepBut.blk hk (g' := bN) (o := .cells #[.int .i64 0, .int .i64 0, .int .i64 0, .int .i64 0, .int .i64 0] 25 (0, 0)) (nb bm) b0.out (by simp)); replace bC := Aside0.mk (KeepBut.blk hk (g' := bP) (o := .cells #[.int .i64 bI, .int .i64 bJ, .int .i64 bK, .int .i64 bL, .int .i64 bM] 25 (0, 0)) (nb bC) b7.out (by simp)); replace HB := Aside0.mk (hb); replace HI186 := Aside0.mk (hi); (try clear hb); obtain ⟨iV, iW, iX, iY, iZ⟩ := c5e bC; obtain ⟨i0, i1, i2, i3, i4⟩ := z5_ bC; have i5 := b0.out; have i6 := dD.out; obtain ⟨i7, i8, i9, ja, jb⟩ := c5e bm; obtain ⟨jc, jd, je, jf, jg⟩ := z5_ bm))
    refine bodyPost_ret (results_cell_row rfl _ _ bN 25 #[.int .i64 dy, .int .i64 dz, .int .i64 dA, .int .i64 dB, .int .i64 dC] (0, 0) _ rfl (p5 bm (k5_ b6.out (nb bm))) Tryz.underlying25 rfl (by kernel_rfl)) rfl ?_; exact ⟨er_, IsS74.nb⟩
  · replace c5 := Bool.eq_false_iff.mpr c5
    subst c5; have H1 : (some (bI, bJ, bK, bL, bM)) = some (r1, r2, r3, r4, r5) := by rw [if_neg (show ¬ (false = true) by decide)] at H; exact H
    clear H; have H := H1; clear H1; simp only [Option.some.injEq, Prod.mk.injEq] at H; obtain ⟨rfl, rfl, rfl, rfl, rfl⟩ := H
    go_enter Tryz.func20, Tryz.ntmps20
    go_wp2_with (first | ((with_reducible refine gate_dst (N := 2) rfl ?_); refine bxe 2 #[.int .i64 0, .int .i64 0, .int .i64 0, .int .i64 0, .int .i64 0] 25 ?_; intro bN hg d9 hbox hb; have bm := hbox; have eL := nge HB hg; have eM := nge HB hg; replace HB := nbs HB hb; clear hb hbox hg) | ((with_reducible refine gate_callee (f := 36) rfl ?_); refine goesM (some 6) rfl rfl Tryz.func36 (by kernel_rfl) rfl #[.slice A0 l0.length c0] rfl ?_; (with_reducible refine (spec_l1New.calls k _ _ l0 bB df dg w _ ?side1 ?side2 ?side3 A2.out).mono ?_); (case side1 => exact nbe HB); (case side2 => exact bX.out); (case side3 => exact b2.out); rintro e jh ⟨g186, rfl, hi, hb, hb2⟩; refine ⟨_, rfl, ?_⟩; have HI186 := Aside0.mk (hi); have dD := Aside0.mk (IsS74.ne_blk hi (blk_below (g := bN) (o := .cells #[.int .i64 0, .int .i64 0, .int .i64 0, .int .i64 0, .int .i64 0] 25 (0, 0)) (nb bm) hb2) (by decide)); have b0 := Aside0.mk (Ne.symm (IsS74.ne_blk hi (blk_below (g := bN) (o := .cells #[.int .i64 0, .int .i64 0, .int .i64 0, .int .i64 0, .int .i64 0] 25 (0, 0)) (nb bm) hb2) (by decide))); replace bm := Aside0.mk (blk_below (g := bN) (o := .cells #[.int .i64 0, .int .i64 0, .int .i64 0, .int .i64 0, .int .i64 0] 25 (0, 0)) (nb bm) hb2); replace HB := Aside0.mk (hb); (try clear hb)) | ((with_reducible refine gate_callee (f := 38) rfl ?_); refine goesM (some 8) rfl rfl Tryz.func38 (by kernel_rfl) rfl #[.pointer (some ⟨g186, 0, none⟩)] rfl ?_; (with_reducible refine (spec_l6DrawIns.calls k g186 bB df dg bI bJ bK bL bM bY bZ w _ ?side1 ?side2 A3.out).mono ?_); (case side1 => exact IsS74.n); (case side2 => exact IsS74.nb); rintro e ji ⟨rfl, hi, hb, hk⟩; refine ⟨_, rfl, ?_⟩; replace bm := Aside0.mk (KeepBut.blk hk (g' := bN) (o := .cells #[.int .i64 0, .int .i64 0, .int .i64 0, .int .i64 0, .int .i64 0] 25 (0, 0)) (nb bm) b0.out (by simp)); replace HB := Aside0.mk (hb); replace HI186 := Aside0.mk (hi); (try clear hb)) | ((with_reducible refine gate_dst (N := 4) rfl ?_); refine bxe 4 #[.int .i64 0, .int .i64 0, .int .i64 0, .int .i64 0, .int .i64 0] 25 ?_; intro bP hg ed hbox hb; have bc := nblk bm hb; have bd := Aside0.mk (IsS74.below (IsS74.n) hb); have bf := Aside0.mk (below_step (IsS74.nb) hb); have bg := hbox; have bh := Aside0.mk ((by rw [hg]; exact (below_size (IsS74.nb)) : w.heap.size ≤ bP)); have bi := Aside0.mk ((by rw [hg]; exact (below_size (IsS74.nb)) : w.heap.size ≤ bP)); have bn := nlt bm hg; have bo := ngt bm hg; have bw := Aside0.mk ((by rw [hg]; exact Nat.ne_of_lt (IsS74.lt (show IsS74 w _ g186 bB bY bZ from IsS74.n)) : g186 ≠ bP)); have bx := Aside0.mk ((by rw [hg]; exact Nat.ne_of_gt (IsS74.lt (show IsS74 w _ g186 bB bY bZ from IsS74.n)) : bP ≠ g186)); clear bm HI186 HB; have bm := bc; have HI186 := bd; have HB := bf; have bC := bg; have eO := bh; have eP := bi; have b6 := bn; have dE := bo; have dF := bw; have b7 := bx; clear bc bd bf bg bh bi bn bo bw bx; clear hb hbox hg; have ee := dE.out; have ef := b6.out; have eg := b7.out; have eh := dF.out; obtain ⟨ei, ej, ek, el, em⟩ := c5e bC; obtain ⟨en, eo, ep, er, es⟩ := z5_ bC) | ((with_reducible refine gate_callee (f := 47) rfl ?_); refine goesM (some 10) rfl rfl Tryz.func47 (by kernel_rfl) rfl #[.pointer (some ⟨g186, 0, none⟩), .int .i64 2] rfl ?_; (with_reducible refine (spec_l1Once.calls g186 bB bY bZ 2 false dh di w _ ?side1 ?side2 A4.out).mono ?_); (case side1 => exact IsS74.n); (case side2 => exact IsS74.nb); rintro e jj ⟨rfl, hi, hb, hk⟩; refine ⟨_, rfl, ?_⟩; replace bm := Aside0.mk (KeepBut.blk hk (g' := bN) (o := .cells #[.int .i64 0, .int .i64 0, .int .i64 0, .int .i64 0, .int .i64 0] 25 (0, 0)) (k5_ b6.out (nb bm)) b0.out (by simp)); replace bC := Aside0.mk (KeepBut.blk hk (g' := bP) (o := .cells #[.int .i64 bI, .int .i64 bJ, .int .i64 bK, .int .i64 bL, .int .i64 bM] 25 (0, 0)) (q5 bC) b7.out (by simp)); replace HB := Aside0.mk (hb); replace HI186 := Aside0.mk (hi); (try clear hb); obtain ⟨et, eu, ev, ew, ex⟩ := c5e bC; obtain ⟨ey, ez, eA, eB, eC⟩ := z5_ bC; have jk := b0.out; have jl := dD.out; obtain ⟨jm, jn, jo, jp, jq⟩ := c5e bm; obtain ⟨jr, js, jt, ju, jv⟩ := z5_ bm))
    refine bodyPost_ret (results_cell_row rfl _ _ bN 25 #[.int .i64 bI, .int .i64 bJ, .int .i64 bK, .int .i64 bL, .int .i64 bM] (0, 0) _ rfl (q5 bm) Tryz.underlying25 rfl (by kernel_rfl)) rfl ?_; exact ⟨er_, IsS74.nb⟩

/-! ### spec_DrawInsText: function 5 -/
def spec_DrawInsText.f (k : Nat) (l0 : List Int) : Option (Int × Int × Int × Int × Int) := (spec_l6DrawOne.f k l0).bind fun bS => (some (bS.1, bS.2.1, bS.2.2.1, bS.2.2.2.1, bS.2.2.2.2))
theorem spec_DrawInsText.mono : ∀ a0 k, LeO (spec_DrawInsText.f k a0) (spec_DrawInsText.f (k + 1) a0) := by
  intro a0 k
  unfold spec_DrawInsText.f
  repeat' first
      | (with_reducible exact spec_l6DrawOne.mono _ _)
      | (with_reducible exact LeO.refl _)
      | (with_reducible exact LeO.none _)
      | (with_reducible refine LeO.ite ?_ ?_)
      | (with_reducible refine LeO.bind ?_ (fun _ => ?_))
      | exact spec_l6DrawOne.mono _ _
      | exact LeO.none _
      | refine LeO.ite ?_ ?_
      | refine LeO.bind ?_ (fun _ => ?_)
set_option maxHeartbeats 8000000 in
set_option maxRecDepth 100000 in
theorem spec_DrawInsText.calls (k : Nat) (A0 : Option Addr) (c0 : Nat) (l0 : List Int) (r1 : Int) (r2 : Int) (r3 : Int) (r4 : Int) (r5 : Int) (w : World) (hr0 : Kd.C (Kd.int .u8) w A0 l0.length l0) (hc0 : l0.length ≤ c0) (h : spec_DrawInsText.f k l0 = some (r1, r2, r3, r4, r5)) :
    Calls Tryz.prog 5 #[.slice A0 l0.length c0] w fun e w' => e = .returned (.agg #[.int .i64 r1, .int .i64 r2, .int .i64 r3, .int .i64 r4, .int .i64 r5]) ∧ Below w.heap.size w w' := by
  have hu25 := Tryz.underlying25; have bX := Aside0.mk hr0; have b2 := Aside0.mk hc0; clear hr0 hc0; have HB := Aside0.mk (Below.refl w.heap.size w); have H : ((spec_l6DrawOne.f k l0).bind fun bS => (some (bS.1, bS.2.1, bS.2.2.1, bS.2.2.2.1, bS.2.2.2.2))) = some (r1, r2, r3, r4, r5) := h; clear h; replace H := Option.bind_eq_some_iff.mp H; obtain ⟨⟨dG, dH, dI, dJ, dK⟩, A20, H⟩ := H; replace H : (some (dG, dH, dI, dJ, dK)) = some (r1, r2, r3, r4, r5) := H; have A2 := Aside0.mk A20; clear A20; simp only [Option.some.injEq, Prod.mk.injEq] at H; obtain ⟨rfl, rfl, rfl, rfl, rfl⟩ := H
  go_enter Tryz.func5, Tryz.ntmps5
  go_wp2_with (first | ((with_reducible refine gate_dst (N := 2) rfl ?_); refine bxe 2 #[.int .i64 0, .int .i64 0, .int .i64 0, .int .i64 0, .int .i64 0] 25 ?_; intro e0 hg w3 hbox hb; have dj := hbox; have jw := nge HB hg; have jx := nge HB hg; replace HB := nbs HB hb; clear hb hbox hg) | ((with_reducible refine gate_callee (f := 20) rfl ?_); refine goesM (some 4) rfl rfl Tryz.func20 (by kernel_rfl) rfl #[.slice A0 l0.length c0] rfl ?_; (with_reducible refine (spec_l6DrawOne.calls k _ _ l0 dG dH dI dJ dK _ ?side1 ?side2 A2.out).mono ?_); (case side1 => exact nCb bX HB); (case side2 => exact b2.out); rintro e w4 ⟨rfl, hb⟩; refine ⟨_, rfl, ?_⟩; replace dj := nblk dj hb; replace HB := nbs HB hb; (try clear hb); obtain ⟨e1, e2, e3, e4, e5⟩ := c5e dj; obtain ⟨e6, e7, e8, e9, ga⟩ := z5_ dj))
  refine bodyPost_ret (results_cell_row rfl _ _ e0 25 #[.int .i64 dG, .int .i64 dH, .int .i64 dI, .int .i64 dJ, .int .i64 dK] (0, 0) _ rfl (q5 dj) Tryz.underlying25 rfl (by kernel_rfl)) rfl ?_; exact ⟨er_, nbe HB⟩

/-! ### impl_formOf: function 22 -/
mutual
def impl_formOf.j0 : Nat → Int → Bool → Option (ByteArray × Bool)
  | 0, _, _ => none
  | k + 1, x4, x7 => if x7 = true then (some ((⟨#[82, 65, 66]⟩ : ByteArray), true)) else (if x4 = 3 then (impl_formOf.j1 k x4 (x4 == 3)) else (if x4 = 9 then (impl_formOf.j1 k x4 (x4 == 9)) else (impl_formOf.j1 k x4 (x4 == 12))))
def impl_formOf.j1 : Nat → Int → Bool → Option (ByteArray × Bool)
  | 0, _, _ => none
  | k + 1, x4, gb => if gb = true then (some ((⟨#[82, 65]⟩ : ByteArray), true)) else (if x4 = 6 then (some ((⟨#[82, 65, 66, 78]⟩ : ByteArray), true)) else (if x4 = 10 then (some ((⟨#[82, 65, 78]⟩ : ByteArray), true)) else (if x4 = 11 then (some ((⟨#[65, 66, 78]⟩ : ByteArray), true)) else (if x4 = 13 then (some ((⟨#[65, 78]⟩ : ByteArray), true)) else (if x4 = 14 then (some ((⟨#[65]⟩ : ByteArray), true)) else (if x4 = 15 then (some ((⟨#[]⟩ : ByteArray), true)) else (some ((⟨#[]⟩ : ByteArray), false))))))))
end
def impl_formOf.f (k : Nat) (a0 : Int) : Option (ByteArray × Bool) := if a0 = 1 then (some ((⟨#[82, 78]⟩ : ByteArray), true)) else (if a0 = 2 then (impl_formOf.j0 k a0 (a0 == 2)) else (if a0 = 4 then (impl_formOf.j0 k a0 (a0 == 4)) else (if a0 = 5 then (impl_formOf.j0 k a0 (a0 == 5)) else (if a0 = 7 then (impl_formOf.j0 k a0 (a0 == 7)) else (impl_formOf.j0 k a0 (a0 == 8))))))
theorem impl_formOf.mono_l : ∀ k, (∀ y0 y1, LeO (impl_formOf.j0 k y0 y1) (impl_formOf.j0 (k + 1) y0 y1)) ∧ (∀ y0 y1, LeO (impl_formOf.j1 k y0 y1) (impl_formOf.j1 (k + 1) y0 y1))
  | 0 => ⟨fun _ _ r h => by simp [impl_formOf.j0] at h, fun _ _ r h => by simp [impl_formOf.j1] at h⟩
  | k + 1 => by
    obtain ⟨ih0, ih1⟩ := impl_formOf.mono_l k; refine ⟨?_, ?_⟩
    · intro y0 y1
      unfold impl_formOf.j0
      repeat' first
      | (with_reducible exact ih0 _ _)
      | (with_reducible exact ih1 _ _)
      | (with_reducible exact LeO.refl _)
      | (with_reducible exact LeO.none _)
      | (with_reducible refine LeO.ite ?_ ?_)
      | (with_reducible refine LeO.bind ?_ (fun _ => ?_))
      | exact ih0 _ _
      | exact ih1 _ _
      | exact LeO.none _
      | refine LeO.ite ?_ ?_
      | refine LeO.bind ?_ (fun _ => ?_)
    · intro y0 y1
      unfold impl_formOf.j1
      repeat' first
      | (with_reducible exact ih0 _ _)
      | (with_reducible exact ih1 _ _)
      | (with_reducible exact LeO.refl _)
      | (with_reducible exact LeO.none _)
      | (with_reducible refine LeO.ite ?_ ?_)
      | (with_reducible refine LeO.bind ?_ (fun _ => ?_))
      | exact ih0 _ _
      | exact ih1 _ _
      | exact LeO.none _
      | refine LeO.ite ?_ ?_
      | refine LeO.bind ?_ (fun _ => ?_)
theorem impl_formOf.mono : ∀ a0 k, LeO (impl_formOf.f k a0) (impl_formOf.f (k + 1) a0) := by
  intro a0 k; obtain ⟨ih0, ih1⟩ := impl_formOf.mono_l k
  unfold impl_formOf.f
  repeat' first
      | (with_reducible exact ih0 _ _)
      | (with_reducible exact ih1 _ _)
      | (with_reducible exact LeO.refl _)
      | (with_reducible exact LeO.none _)
      | (with_reducible refine LeO.ite ?_ ?_)
      | (with_reducible refine LeO.bind ?_ (fun _ => ?_))
      | exact ih0 _ _
      | exact ih1 _ _
      | exact LeO.none _
      | refine LeO.ite ?_ ?_
      | refine LeO.bind ?_ (fun _ => ?_)
set_option maxHeartbeats 8000000 in
set_option maxRecDepth 100000 in
theorem impl_formOf.calls (k : Nat) (a0 : Int) (r1 : ByteArray) (r2 : Bool) (w : World) (h : impl_formOf.f k a0 = some (r1, r2)) :
    Calls Tryz.prog 22 #[.int .i64 a0] w fun e w' => e = .returned (.tuple #[.string r1, .bool r2]) ∧ Drawn0 w w' := by
  have H : (if a0 = 1 then (some ((⟨#[82, 78]⟩ : ByteArray), true)) else (if a0 = 2 then (impl_formOf.j0 k a0 (a0 == 2)) else (if a0 = 4 then (impl_formOf.j0 k a0 (a0 == 4)) else (if a0 = 5 then (impl_formOf.j0 k a0 (a0 == 5)) else (if a0 = 7 then (impl_formOf.j0 k a0 (a0 == 7)) else (impl_formOf.j0 k a0 (a0 == 8))))))) = some (r1, r2) := h; clear h
  by_cases c2 : a0 = 1
  · rw [if_pos c2] at H
    have c2b0 : (a0 == 1) = true := beq_iff_eq.mpr c2; have c2b1 : (a0 != 1) = false := bne_eq_false_iff_eq.mpr c2; clear c2; simp only [Option.some.injEq, Prod.mk.injEq] at H; obtain ⟨rfl, rfl⟩ := H
    go_enter Tryz.func22, Tryz.ntmps22
    go_wp2
    go_ret2
    exact ⟨by first | rfl | (simp; done) | (simp [*]; done), by repeat (first | exact Drawn0.refl _ | apply Drawn0.step)⟩
  · rw [if_neg c2] at H
    have c2b0 : (a0 == 1) = false := beq_eq_false_iff_ne.mpr c2; have c2b1 : (a0 != 1) = true := bne_iff_ne.mpr c2; have dL := Aside0.mk H; clear H
    go_enter Tryz.func22, Tryz.ntmps22
    go_upto_if 7 with (fail)
    go_cut [7] (fun v7 wc => ∃ (kq : Nat) (dp : Bool), v7 = .bool dp ∧ Aside0 (impl_formOf.j0 kq a0 dp = some (r1, r2)) ∧ Aside0 (kq ≤ k) ∧ Drawn0 w wc)
    case first =>
      have H := dL.out; clear dL
      by_cases c4 : a0 = 2
      · rw [if_pos c4] at H
        have c4b0 : (a0 == 2) = true := beq_iff_eq.mpr c4; have c4b1 : (a0 != 2) = false := bne_eq_false_iff_eq.mpr c4; clear c4; (first | rw [c4b0] | (simp only [i64_w, i32_w]; rw [c4b0]) | skip); have H' := Aside0.mk H; clear H; go_wp2
        go_meet
        case rel => exact ⟨_, ((a0 == 2)), (by first | rfl | (simp; done) | (simp [*]; done)), H', ⟨by first | omega | exact Nat.le_refl _⟩, by repeat (first | exact Drawn0.refl _ | apply Drawn0.step)⟩
      · rw [if_neg c4] at H
        have c4b0 : (a0 == 2) = false := beq_eq_false_iff_ne.mpr c4; have c4b1 : (a0 != 2) = true := bne_iff_ne.mpr c4; (first | rw [c4b0] | (simp only [i64_w, i32_w]; rw [c4b0]) | skip)
        by_cases c5 : a0 = 4
        · rw [if_pos c5] at H
          have c5b0 : (a0 == 4) = true := beq_iff_eq.mpr c5; have c5b1 : (a0 != 4) = false := bne_eq_false_iff_eq.mpr c5; clear c5; have H' := Aside0.mk H; clear H; go_wp2
          go_meet
          case rel => exact ⟨_, ((a0 == 4)), (by first | rfl | (simp; done) | (simp [*]; done)), H', ⟨by first | omega | exact Nat.le_refl _⟩, by repeat (first | exact Drawn0.refl _ | apply Drawn0.step)⟩
        · rw [if_neg c5] at H
          have c5b0 : (a0 == 4) = false := beq_eq_false_iff_ne.mpr c5; have c5b1 : (a0 != 4) = true := bne_iff_ne.mpr c5
          by_cases c6 : a0 = 5
          · rw [if_pos c6] at H
            have c6b0 : (a0 == 5) = true := beq_iff_eq.mpr c6; have c6b1 : (a0 != 5) = false := bne_eq_false_iff_eq.mpr c6; clear c6; have H' := Aside0.mk H; clear H; go_wp2
            go_meet
            case rel => exact ⟨_, ((a0 == 5)), (by first | rfl | (simp; done) | (simp [*]; done)), H', ⟨by first | omega | exact Nat.le_refl _⟩, by repeat (first | exact Drawn0.refl _ | apply Drawn0.step)⟩
          · rw [if_neg c6] at H
            have c6b0 : (a0 == 5) = false := beq_eq_false_iff_ne.mpr c6; have c6b1 : (a0 != 5) = true := bne_iff_ne.mpr c6
            by_cases c7 : a0 = 7
            · rw [if_pos c7] at H
              have c7b0 : (a0 == 7) = true := beq_iff_eq.mpr c7; have c7b1 : (a0 != 7) = false := bne_eq_false_iff_eq.mpr c7; clear c7; have H' := Aside0.mk H; clear H; go_wp2
              go_meet
              case rel => exact ⟨_, ((a0 == 7)), (by first | rfl | (simp; done) | (simp [*]; done)), H', ⟨by first | omega | exact Nat.le_refl _⟩, by repeat (first | exact Drawn0.refl _ | apply Drawn0.step)⟩
            · rw [if_neg c7] at H
              have c7b0 : (a0 == 7) = false := beq_eq_false_iff_ne.mpr c7; have c7b1 : (a0 != 7) = true := bne_iff_ne.mpr c7; have H' := Aside0.mk H; clear H; go_wp2
              go_meet
              case rel => exact ⟨_, ((a0 == 8)), (by first | rfl | (simp; done) | (simp [*]; done)), H', ⟨by first | omega | exact Nat.le_refl _⟩, by repeat (first | exact Drawn0.refl _ | apply Drawn0.step)⟩
    case rest =>
      clear dL; try clear c2
      try clear c2b0
      try clear c2b1
      try clear p2
      try clear c4
      try clear c4b0
      try clear c4b1
      try clear c5
      try clear c5b0
      try clear c5b1
      try clear c6
      try clear c6b0
      try clear c6b1
      try clear c7
      try clear c7b0
      try clear c7b1
      obtain ⟨kq, dp, rfl, HA, dM, ⟨mc2, rfl⟩⟩ := hcut
      cases kq with
      | zero => exact absurd HA.out (by simp [impl_formOf.j0])
      | succ kj2 =>
        have H := HA.out; clear HA; simp only [impl_formOf.j0] at H
        by_cases c8 : dp = true
        · subst c8
          have H1 : (some ((⟨#[82, 65, 66]⟩ : ByteArray), true)) = some (r1, r2) := by rw [if_pos rfl] at H; exact H
          clear H; have H := H1; clear H1; simp only [Option.some.injEq, Prod.mk.injEq] at H; obtain ⟨rfl, rfl⟩ := H; go_wp2
          go_ret2
          exact ⟨by first | rfl | (simp; done) | (simp [*]; done), by repeat (first | exact Drawn0.refl _ | apply Drawn0.step)⟩
        · replace c8 := Bool.eq_false_iff.mpr c8
          subst c8; have H1 : (if a0 = 3 then (impl_formOf.j1 kj2 a0 (a0 == 3)) else (if a0 = 9 then (impl_formOf.j1 kj2 a0 (a0 == 9)) else (impl_formOf.j1 kj2 a0 (a0 == 12)))) = some (r1, r2) := by rw [if_neg (show ¬ (false = true) by decide)] at H; exact H
          clear H; have H := H1; clear H1; have dN := Aside0.mk H; clear H
          go_upto_if 13 with (fail)
          go_cut [13] (fun gc wc => ∃ (kq : Nat) (dq : Bool), gc = .bool dq ∧ Aside0 (impl_formOf.j1 kq a0 dq = some (r1, r2)) ∧ Aside0 (kq ≤ kj2) ∧ Drawn0 w wc)
          case first =>
            have H := dN.out; clear dN
            by_cases c10 : a0 = 3
            · rw [if_pos c10] at H
              have c10b0 : (a0 == 3) = true := beq_iff_eq.mpr c10; have c10b1 : (a0 != 3) = false := bne_eq_false_iff_eq.mpr c10; clear c10; (first | rw [c10b0] | (simp only [i64_w, i32_w]; rw [c10b0]) | skip); have H' := Aside0.mk H; clear H; go_wp2
              go_meet
              case rel => exact ⟨_, ((a0 == 3)), (by first | rfl | (simp; done) | (simp [*]; done)), H', ⟨by have := dM.out; first | omega | exact Nat.le_refl _⟩, by repeat (first | exact Drawn0.refl _ | apply Drawn0.step)⟩
            · rw [if_neg c10] at H
              have c10b0 : (a0 == 3) = false := beq_eq_false_iff_ne.mpr c10; have c10b1 : (a0 != 3) = true := bne_iff_ne.mpr c10; (first | rw [c10b0] | (simp only [i64_w, i32_w]; rw [c10b0]) | skip)
              by_cases c11 : a0 = 9
              · rw [if_pos c11] at H
                have c11b0 : (a0 == 9) = true := beq_iff_eq.mpr c11; have c11b1 : (a0 != 9) = false := bne_eq_false_iff_eq.mpr c11; clear c11; have H' := Aside0.mk H; clear H; go_wp2
                go_meet
                case rel => exact ⟨_, ((a0 == 9)), (by first | rfl | (simp; done) | (simp [*]; done)), H', ⟨by have := dM.out; first | omega | exact Nat.le_refl _⟩, by repeat (first | exact Drawn0.refl _ | apply Drawn0.step)⟩
              · rw [if_neg c11] at H
                have c11b0 : (a0 == 9) = false := beq_eq_false_iff_ne.mpr c11; have c11b1 : (a0 != 9) = true := bne_iff_ne.mpr c11; have H' := Aside0.mk H; clear H; go_wp2
                go_meet
                case rel => exact ⟨_, ((a0 == 12)), (by first | rfl | (simp; done) | (simp [*]; done)), H', ⟨by have := dM.out; first | omega | exact Nat.le_refl _⟩, by repeat (first | exact Drawn0.refl _ | apply Drawn0.step)⟩
          case rest =>
            clear dN; try clear c1
            try clear c2
            try clear c2b0
            try clear c2b1
            try clear p2
            try clear c4
            try clear c4b0
            try clear c4b1
            try clear c5
            try clear c5b0
            try clear c5b1
            try clear c6
            try clear c6b0
            try clear c6b1
            try clear c7
            try clear c7b0
            try clear c7b1
            try clear c8
            try clear c10
            try clear c10b0
            try clear c10b1
            try clear c11
            try clear c11b0
            try clear c11b1
            try clear p2
            obtain ⟨kq, dq, rfl, HA, jy, ⟨mc8, rfl⟩⟩ := hcut
            cases kq with
            | zero => exact absurd HA.out (by simp [impl_formOf.j1])
            | succ kj8 =>
              have H := HA.out; clear HA; simp only [impl_formOf.j1] at H
              by_cases c12 : dq = true
              · subst c12
                have H1 : (some ((⟨#[82, 65]⟩ : ByteArray), true)) = some (r1, r2) := by rw [if_pos rfl] at H; exact H
                clear H; have H := H1; clear H1; simp only [Option.some.injEq, Prod.mk.injEq] at H; obtain ⟨rfl, rfl⟩ := H; go_wp2
                go_ret2
                exact ⟨by first | rfl | (simp; done) | (simp [*]; done), by repeat (first | exact Drawn0.refl _ | apply Drawn0.step)⟩
              · replace c12 := Bool.eq_false_iff.mpr c12
                subst c12; have H1 : (if a0 = 6 then (some ((⟨#[82, 65, 66, 78]⟩ : ByteArray), true)) else (if a0 = 10 then (some ((⟨#[82, 65, 78]⟩ : ByteArray), true)) else (if a0 = 11 then (some ((⟨#[65, 66, 78]⟩ : ByteArray), true)) else (if a0 = 13 then (some ((⟨#[65, 78]⟩ : ByteArray), true)) else (if a0 = 14 then (some ((⟨#[65]⟩ : ByteArray), true)) else (if a0 = 15 then (some ((⟨#[]⟩ : ByteArray), true)) else (some ((⟨#[]⟩ : ByteArray), false)))))))) = some (r1, r2) := by rw [if_neg (show ¬ (false = true) by decide)] at H; exact H
                clear H; have H := H1; clear H1
                by_cases c13 : a0 = 6
                · rw [if_pos c13] at H
                  have c13b0 : (a0 == 6) = true := beq_iff_eq.mpr c13; have c13b1 : (a0 != 6) = false := bne_eq_false_iff_eq.mpr c13; clear c13; simp only [Option.some.injEq, Prod.mk.injEq] at H; obtain ⟨rfl, rfl⟩ := H; go_wp2
                  go_ret2
                  exact ⟨by first | rfl | (simp; done) | (simp [*]; done), by repeat (first | exact Drawn0.refl _ | apply Drawn0.step)⟩
                · rw [if_neg c13] at H
                  have c13b0 : (a0 == 6) = false := beq_eq_false_iff_ne.mpr c13; have c13b1 : (a0 != 6) = true := bne_iff_ne.mpr c13
                  by_cases c14 : a0 = 10
                  · rw [if_pos c14] at H
                    have c14b0 : (a0 == 10) = true := beq_iff_eq.mpr c14; have c14b1 : (a0 != 10) = false := bne_eq_false_iff_eq.mpr c14; clear c14; simp only [Option.some.injEq, Prod.mk.injEq] at H; obtain ⟨rfl, rfl⟩ := H; go_wp2
                    go_ret2
                    exact ⟨by first | rfl | (simp; done) | (simp [*]; done), by repeat (first | exact Drawn0.refl _ | apply Drawn0.step)⟩
                  · rw [if_neg c14] at H
                    have c14b0 : (a0 == 10) = false := beq_eq_false_iff_ne.mpr c14; have c14b1 : (a0 != 10) = true := bne_iff_ne.mpr c14
                    by_cases c15 : a0 = 11
                    · rw [if_pos c15] at H
                      have c15b0 : (a0 == 11) = true := beq_iff_eq.mpr c15; have c15b1 : (a0 != 11) = false := bne_eq_false_iff_eq.mpr c15; clear c15; simp only [Option.some.injEq, Prod.mk.injEq] at H; obtain ⟨rfl, rfl⟩ := H; go_wp2
                      go_ret2
                      exact ⟨by first | rfl | (simp; done) | (simp [*]; done), by repeat (first | exact Drawn0.refl _ | apply Drawn0.step)⟩
                    · rw [if_neg c15] at H
                      have c15b0 : (a0 == 11) = false := beq_eq_false_iff_ne.mpr c15; have c15b1 : (a0 != 11) = true := bne_iff_ne.mpr c15
                      by_cases c16 : a0 = 13
                      · rw [if_pos c16] at H
                        have c16b0 : (a0 == 13) = true := beq_iff_eq.mpr c16; have c16b1 : (a0 != 13) = false := bne_eq_false_iff_eq.mpr c16; clear c16; simp only [Option.some.injEq, Prod.mk.injEq] at H; obtain ⟨rfl, rfl⟩ := H; go_wp2
                        go_ret2
                        exact ⟨by first | rfl | (simp; done) | (simp [*]; done), by repeat (first | exact Drawn0.refl _ | apply Drawn0.step)⟩
                      · rw [if_neg c16] at H
                        have c16b0 : (a0 == 13) = false := beq_eq_false_iff_ne.mpr c16; have c16b1 : (a0 != 13) = true := bne_iff_ne.mpr c16
                        by_cases c17 : a0 = 14
                        · rw [if_pos c17] at H
                          have c17b0 : (a0 == 14) = true := beq_iff_eq.mpr c17; have c17b1 : (a0 != 14) = false := bne_eq_false_iff_eq.mpr c17; clear c17; simp only [Option.some.injEq, Prod.mk.injEq] at H; obtain ⟨rfl, rfl⟩ := H; go_wp2
                          go_ret2
                          exact ⟨by first | rfl | (simp; done) | (simp [*]; done), by repeat (first | exact Drawn0.refl _ | apply Drawn0.step)⟩
                        · rw [if_neg c17] at H
                          have c17b0 : (a0 == 14) = false := beq_eq_false_iff_ne.mpr c17; have c17b1 : (a0 != 14) = true := bne_iff_ne.mpr c17
                          by_cases c18 : a0 = 15
                          · rw [if_pos c18] at H
                            have c18b0 : (a0 == 15) = true := beq_iff_eq.mpr c18; have c18b1 : (a0 != 15) = false := bne_eq_false_iff_eq.mpr c18; clear c18; simp only [Option.some.injEq, Prod.mk.injEq] at H; obtain ⟨rfl, rfl⟩ := H; go_wp2
                            go_ret2
                            exact ⟨by first | rfl | (simp; done) | (simp [*]; done), by repeat (first | exact Drawn0.refl _ | apply Drawn0.step)⟩
                          · rw [if_neg c18] at H
                            have c18b0 : (a0 == 15) = false := beq_eq_false_iff_ne.mpr c18; have c18b1 : (a0 != 15) = true := bne_iff_ne.mpr c18; simp only [Option.some.injEq, Prod.mk.injEq] at H; obtain ⟨rfl, rfl⟩ := H; go_wp2
                            go_ret2
                            exact ⟨by first | rfl | (simp; done) | (simp [*]; done), by repeat (first | exact Drawn0.refl _ | apply Drawn0.step)⟩

/-! ### impl_partOf: function 24 -/
def impl_partOf.f (a0_0 : Int) (a0_1 : Int) (a0_2 : Int) (a0_3 : Int) (a0_4 : Int) (a1 : Int) : Option (Int) := if a1 = 82 then (some a0_1) else (if a1 = 65 then (some a0_2) else (if a1 = 66 then (some a0_3) else (some a0_4)))
set_option maxHeartbeats 8000000 in
set_option maxRecDepth 100000 in
theorem impl_partOf.calls (a0_0 : Int) (a0_1 : Int) (a0_2 : Int) (a0_3 : Int) (a0_4 : Int) (a1 : Int) (r : Int) (w : World) (h : impl_partOf.f a0_0 a0_1 a0_2 a0_3 a0_4 a1 = some r) :
    Calls Tryz.prog 24 #[.agg #[.int .i64 a0_0, .int .i64 a0_1, .int .i64 a0_2, .int .i64 a0_3, .int .i64 a0_4], .int .u8 a1] w fun e w' => e = .returned (.int .i64 r) ∧ Below w.heap.size w w' := by
  have hu25 := Tryz.underlying25; have HB := Aside0.mk (Below.refl w.heap.size w); have H : (if a1 = 82 then (some a0_1) else (if a1 = 65 then (some a0_2) else (if a1 = 66 then (some a0_3) else (some a0_4)))) = some r := h; clear h
  by_cases c3 : a1 = 82
  · rw [if_pos c3] at H
    have c3b0 : (a1 == 82) = true := beq_iff_eq.mpr c3; have c3b1 : (a1 != 82) = false := bne_eq_false_iff_eq.mpr c3; clear c3; obtain rfl := Option.some.inj H
    go_enter Tryz.func24, Tryz.ntmps24
    go_wp2_with (first | ((with_reducible refine gate_dst (N := 2) rfl ?_); refine bxe 2 #[.int .i64 a0_0, .int .i64 a0_1, .int .i64 a0_2, .int .i64 a0_3, .int .i64 a0_4] 25 ?_; intro dO hg w4 hbox hb; have bT := hbox; have dP := nge HB hg; have dQ := nge HB hg; replace HB := nbs HB hb; clear hb hbox hg; obtain ⟨e1, e2, e3, e4, e5⟩ := c5e bT; obtain ⟨e6, e7, e8, e9, ga⟩ := z5_ bT))
    go_ret
    exact ⟨er_, nbe HB⟩
  · rw [if_neg c3] at H
    have c3b0 : (a1 == 82) = false := beq_eq_false_iff_ne.mpr c3; have c3b1 : (a1 != 82) = true := bne_iff_ne.mpr c3
    by_cases c6 : a1 = 65
    · rw [if_pos c6] at H
      have c6b0 : (a1 == 65) = true := beq_iff_eq.mpr c6; have c6b1 : (a1 != 65) = false := bne_eq_false_iff_eq.mpr c6; clear c6; obtain rfl := Option.some.inj H
      go_enter Tryz.func24, Tryz.ntmps24
      go_wp2_with (first | ((with_reducible refine gate_dst (N := 2) rfl ?_); refine bxe 2 #[.int .i64 a0_0, .int .i64 a0_1, .int .i64 a0_2, .int .i64 a0_3, .int .i64 a0_4] 25 ?_; intro dO hg w7 hbox hb; have bT := hbox; have dP := nge HB hg; have dQ := nge HB hg; replace HB := nbs HB hb; clear hb hbox hg; obtain ⟨jz, jA, jB, jC, jD⟩ := c5e bT; obtain ⟨jE, jF, jG, jH, jI⟩ := z5_ bT))
      go_ret
      exact ⟨er_, nbe HB⟩
    · rw [if_neg c6] at H
      have c6b0 : (a1 == 65) = false := beq_eq_false_iff_ne.mpr c6; have c6b1 : (a1 != 65) = true := bne_iff_ne.mpr c6
      by_cases c9 : a1 = 66
      · rw [if_pos c9] at H
        have c9b0 : (a1 == 66) = true := beq_iff_eq.mpr c9; have c9b1 : (a1 != 66) = false := bne_eq_false_iff_eq.mpr c9; clear c9; obtain rfl := Option.some.inj H
        go_enter Tryz.func24, Tryz.ntmps24
        go_wp2_with (first | ((with_reducible refine gate_dst (N := 2) rfl ?_); refine bxe 2 #[.int .i64 a0_0, .int .i64 a0_1, .int .i64 a0_2, .int .i64 a0_3, .int .i64 a0_4] 25 ?_; intro dO hg eN hbox hb; have bT := hbox; have dP := nge HB hg; have dQ := nge HB hg; replace HB := nbs HB hb; clear hb hbox hg; obtain ⟨jJ, jK, jL, jM, jN⟩ := c5e bT; obtain ⟨jO, jP, jQ, jR, jS⟩ := z5_ bT))
        go_ret
        exact ⟨er_, nbe HB⟩
      · rw [if_neg c9] at H
        have c9b0 : (a1 == 66) = false := beq_eq_false_iff_ne.mpr c9; have c9b1 : (a1 != 66) = true := bne_iff_ne.mpr c9; obtain rfl := Option.some.inj H
        go_enter Tryz.func24, Tryz.ntmps24
        go_wp2_with (first | ((with_reducible refine gate_dst (N := 2) rfl ?_); refine bxe 2 #[.int .i64 a0_0, .int .i64 a0_1, .int .i64 a0_2, .int .i64 a0_3, .int .i64 a0_4] 25 ?_; intro dO hg jT hbox hb; have bT := hbox; have dP := nge HB hg; have dQ := nge HB hg; replace HB := nbs HB hb; clear hb hbox hg; obtain ⟨eQ, eR, eS, eT, eU⟩ := c5e bT; obtain ⟨eV, eW, eX, eY, eZ⟩ := z5_ bT))
        go_ret
        exact ⟨er_, nbe HB⟩

/-! ### slices_Index_byte_byte: function 63 -/
def slices_Index_byte_byte.l0 : Nat → List Int → Int → Int → Int → Option (Int)
  | 0, _, _, _, _ => none
  | k + 1, x0, x1, x7, x8 => if x8 < x7 then (if 0 ≤ x8 then (if x8 < (x0.length : Int) then (if x1 = (rd x0 x8) then (some x8) else (slices_Index_byte_byte.l0 k x0 x1 x7 (wrap64 (x8 + 1)))) else (none)) else (none)) else (some (-1))
def slices_Index_byte_byte.f (k : Nat) (l0 : List Int) (a1 : Int) : Option (Int) := slices_Index_byte_byte.l0 k l0 a1 (l0.length : Int) 0
theorem slices_Index_byte_byte.mono_l : ∀ k, (∀ y0 y1 y2 y3, LeO (slices_Index_byte_byte.l0 k y0 y1 y2 y3) (slices_Index_byte_byte.l0 (k + 1) y0 y1 y2 y3))
  | 0 => fun _ _ _ _ r h => by simp [slices_Index_byte_byte.l0] at h
  | k + 1 => by
    have ih0 := slices_Index_byte_byte.mono_l k
    · intro y0 y1 y2 y3
      unfold slices_Index_byte_byte.l0
      repeat' first
      | (with_reducible exact ih0 _ _ _ _)
      | (with_reducible exact LeO.refl _)
      | (with_reducible exact LeO.none _)
      | (with_reducible refine LeO.ite ?_ ?_)
      | (with_reducible refine LeO.bind ?_ (fun _ => ?_))
      | exact ih0 _ _ _ _
      | exact LeO.none _
      | refine LeO.ite ?_ ?_
      | refine LeO.bind ?_ (fun _ => ?_)
theorem slices_Index_byte_byte.mono : ∀ a0 a1 k, LeO (slices_Index_byte_byte.f k a0 a1) (slices_Index_byte_byte.f (k + 1) a0 a1) := by
  intro a0 a1 k; have ih0 := slices_Index_byte_byte.mono_l k
  unfold slices_Index_byte_byte.f
  repeat' first
      | (with_reducible exact ih0 _ _ _ _)
      | (with_reducible exact LeO.refl _)
      | (with_reducible exact LeO.none _)
      | (with_reducible refine LeO.ite ?_ ?_)
      | (with_reducible refine LeO.bind ?_ (fun _ => ?_))
      | exact ih0 _ _ _ _
      | exact LeO.none _
      | refine LeO.ite ?_ ?_
      | refine LeO.bind ?_ (fun _ => ?_)
set_option maxHeartbeats 8000000 in
set_option maxRecDepth 100000 in
theorem slices_Index_byte_byte.calls (k : Nat) (A0 : Option Addr) (c0 : Nat) (l0 : List Int) (a1 : Int) (r : Int) (w : World) (hr0 : Kd.C (Kd.int .u8) w A0 l0.length l0) (hc0 : l0.length ≤ c0) (h : slices_Index_byte_byte.f k l0 a1 = some r) :
    Calls Tryz.prog 63 #[.slice A0 l0.length c0, .int .u8 a1] w fun e w' => e = .returned (.int .i64 r) ∧ Drawn0 w w' := by
  have bX := Aside0.mk hr0; have b2 := Aside0.mk hc0; clear hr0 hc0; have H : (slices_Index_byte_byte.l0 k l0 a1 (l0.length : Int) 0) = some r := h; clear h; have H' := Aside0.mk H; clear H
  go_enter Tryz.func63, Tryz.ntmps63
  go_wp2
  go_loopg [8] k (fun kq v8 w' => ∃ (bs : Int), v8 = .int .i64 bs ∧ Aside0 (slices_Index_byte_byte.l0 kq l0 a1 (l0.length : Int) bs = some r) ∧ Aside0 (kq ≤ k) ∧ Drawn0 w w')
  case atStart => exact ⟨(0), (by first | rfl | (simp; done) | (simp [*]; done)), H', ⟨Nat.le_refl _⟩, by repeat (first | exact Drawn0.refl _ | apply Drawn0.step)⟩
  case round =>
    clear H'; try clear p2
    obtain ⟨bs, rfl, HA, d6, ⟨m1, rfl⟩⟩ := hrel
    cases gk with
    | zero => exact absurd HA.out (by simp [slices_Index_byte_byte.l0])
    | succ k1 =>
      have H := HA.out; clear HA; simp only [slices_Index_byte_byte.l0] at H
      by_cases c3 : bs < (l0.length : Int)
      · rw [if_pos c3] at H
        have c3b0 : decide (bs < (l0.length : Int)) = true := decide_eq_true c3; clear c3
        by_cases c4 : 0 ≤ bs
        · rw [if_pos c4] at H
          have c4b0 : decide (0 ≤ bs) = true := decide_eq_true c4; clear c4
          by_cases c5 : bs < (l0.length : Int)
          · rw [if_pos c5] at H
            have c5b0 : decide (bs < (l0.length : Int)) = true := decide_eq_true c5; clear c5
            by_cases c6 : a1 = (rd l0 bs)
            · rw [if_pos c6] at H
              have c6b0 : (a1 == (rd l0 bs)) = true := beq_iff_eq.mpr c6; have c6b1 : (a1 != (rd l0 bs)) = false := bne_eq_false_iff_eq.mpr c6; clear c6; obtain rfl := Option.some.inj H; have p212 : 0 ≤ (bs : Int) := of_decide_eq_true (by first | (with_reducible assumption) | assumption); have q212 : bs < (l0.length : Int) := of_decide_eq_true (by first | (with_reducible assumption) | assumption); obtain ⟨gd, e212, gf⟩ := Kd.at_int bX.out bs p212 q212
              cases e212
              replace p212 := eq_true p212; replace q212 := eq_true q212; go_wp2
              go_ret
              exact ⟨by first | rfl | (simp; done) | (simp [*]; done), by repeat (first | exact Drawn0.refl _ | apply Drawn0.step)⟩
            · rw [if_neg c6] at H
              have c6b0 : (a1 == (rd l0 bs)) = false := beq_eq_false_iff_ne.mpr c6; have c6b1 : (a1 != (rd l0 bs)) = true := bne_iff_ne.mpr c6; have H' := Aside0.mk H; clear H; have p212 : 0 ≤ (bs : Int) := of_decide_eq_true (by first | (with_reducible assumption) | assumption); have q212 : bs < (l0.length : Int) := of_decide_eq_true (by first | (with_reducible assumption) | assumption); obtain ⟨gd, e212, gf⟩ := Kd.at_int bX.out bs p212 q212
              cases e212
              replace p212 := eq_true p212; replace q212 := eq_true q212; go_wp2
              go_roundg k1
              case measure => have := d6.out; omega
              case rel => exact ⟨(wrap64 (bs + 1)), (by first | rfl | (simp; done) | (simp [*]; done)), H', ⟨by have := d6.out; omega⟩, by repeat (first | exact Drawn0.refl _ | apply Drawn0.step)⟩
          · rw [if_neg c5] at H
            exact absurd H (by simp)
        · rw [if_neg c4] at H
          exact absurd H (by simp)
      · rw [if_neg c3] at H
        have c3b0 : decide (bs < (l0.length : Int)) = false := decide_eq_false c3; clear c3; obtain rfl := Option.some.inj H; go_wp2
        go_ret
        exact ⟨by first | rfl | (simp; done) | (simp [*]; done), by repeat (first | exact Drawn0.refl _ | apply Drawn0.step)⟩

/-! ### slices_Contains_byte_byte: function 52 -/
def slices_Contains_byte_byte.f (k : Nat) (l0 : List Int) (a1 : Int) : Option (Bool) := (slices_Index_byte_byte.f k l0 a1).bind fun b8 => (some (decide (b8 ≥ 0)))
theorem slices_Contains_byte_byte.mono : ∀ a0 a1 k, LeO (slices_Contains_byte_byte.f k a0 a1) (slices_Contains_byte_byte.f (k + 1) a0 a1) := by
  intro a0 a1 k
  unfold slices_Contains_byte_byte.f
  repeat' first
      | (with_reducible exact slices_Index_byte_byte.mono _ _ _)
      | (with_reducible exact LeO.refl _)
      | (with_reducible exact LeO.none _)
      | (with_reducible refine LeO.ite ?_ ?_)
      | (with_reducible refine LeO.bind ?_ (fun _ => ?_))
      | exact slices_Index_byte_byte.mono _ _ _
      | exact LeO.none _
      | refine LeO.ite ?_ ?_
      | refine LeO.bind ?_ (fun _ => ?_)
set_option maxHeartbeats 8000000 in
set_option maxRecDepth 100000 in
theorem slices_Contains_byte_byte.calls (k : Nat) (A0 : Option Addr) (c0 : Nat) (l0 : List Int) (a1 : Int) (r : Bool) (w : World) (hr0 : Kd.C (Kd.int .u8) w A0 l0.length l0) (hc0 : l0.length ≤ c0) (h : slices_Contains_byte_byte.f k l0 a1 = some r) :
    Calls Tryz.prog 52 #[.slice A0 l0.length c0, .int .u8 a1] w fun e w' => e = .returned (.bool r) ∧ Drawn0 w w' := by
  have bX := Aside0.mk hr0; have b2 := Aside0.mk hc0; clear hr0 hc0; have H : ((slices_Index_byte_byte.f k l0 a1).bind fun b8 => (some (decide (b8 ≥ 0)))) = some r := h; clear h; replace H := Option.bind_eq_some_iff.mp H; obtain ⟨b8, A30, H⟩ := H; replace H : (some (decide (b8 ≥ 0))) = some r := H; have A3 := Aside0.mk A30; clear A30; obtain rfl := Option.some.inj H
  go_enter Tryz.func52, Tryz.ntmps52
  go_wp2_with (first | ((with_reducible refine gate_callee (f := 63) rfl ?_); refine goesM (some 7) rfl rfl Tryz.func63 (by kernel_rfl) rfl #[.slice A0 l0.length c0, .int .u8 a1] rfl ?_; (with_reducible refine (slices_Index_byte_byte.calls k _ _ l0 a1 b8 _ ?side1 ?side2 A3.out).mono ?_); (case side1 => exact nC bX); (case side2 => exact b2.out); rintro e w' ⟨rfl, ⟨nd, rfl⟩⟩; refine ⟨_, rfl, ?_⟩))
  go_ret
  exact ⟨by first | rfl | (simp; done) | (simp [*]; done), by repeat (first | exact Drawn0.refl _ | apply Drawn0.step)⟩

/-! ### impl_hasPart: function 29 -/
theorem impl_hasPart.reads (W : World) (s : ByteArray) (g : Nat) (hg : g = W.heap.size) (hs : s.size ≤ 9223372036854775807) : Kd.C (Kd.int .u8) (Lib.bytesWorld W 5 s) (some ⟨g, 0, none⟩) s.size (bytesOf s) := by
  subst hg; obtain ⟨h1, h2, h3⟩ := bytes_reads W 5 s hs; refine ⟨h1, h2, fun hp => ?_⟩; obtain ⟨ad, e, hc⟩ := h3 hp; refine ⟨ad, e, fun j p hj => ⟨[.int .u8 p], rfl, rfl, fun i u hu => ?_⟩⟩
  have hi : i = 0 := by
    cases i with
    | zero => rfl
    | succ i => simp at hu
  subst hi; obtain rfl : Value.int .u8 p = u := by simpa using hu
  have hjl : j < s.size := by
    rw [← h1]; exact (List.getElem?_eq_some_iff.1 hj).1
  have h4 := hc j hjl; rw [List.getD_eq_getElem?_getD, hj] at h4; have h5 : j * (Kd.int .u8).sz + 0 = j := Nat.mul_one j; rw [h5]; exact h4
def impl_hasPart.f (k : Nat) (a0_0 : Int) (a0_1 : Int) (a0_2 : Int) (a0_3 : Int) (a0_4 : Int) (a1 : Int) : Option (Bool) := (impl_formOf.f k a0_0).bind fun bt => (if bt.1.size ≤ 9223372036854775807 then slices_Contains_byte_byte.f k (bytesOf bt.1) a1 else none)
theorem impl_hasPart.mono : ∀ a0 a1 a2 a3 a4 a5 k, LeO (impl_hasPart.f k a0 a1 a2 a3 a4 a5) (impl_hasPart.f (k + 1) a0 a1 a2 a3 a4 a5) := by
  intro a0 a1 a2 a3 a4 a5 k
  unfold impl_hasPart.f
  refine LeO.bind ?_ (fun _ => ?_)
  · first | exact impl_formOf.mono _ _ | exact LeO.refl _
  · refine LeO.ite ?_ ?_
    · first | exact slices_Contains_byte_byte.mono _ _ _ | exact LeO.refl _
    · exact LeO.none _
set_option maxHeartbeats 8000000 in
set_option maxRecDepth 100000 in
theorem impl_hasPart.calls (k : Nat) (a0_0 : Int) (a0_1 : Int) (a0_2 : Int) (a0_3 : Int) (a0_4 : Int) (a1 : Int) (r : Bool) (w : World) (h : impl_hasPart.f k a0_0 a0_1 a0_2 a0_3 a0_4 a1 = some r) :
  Calls Tryz.prog 29 #[.agg #[.int .i64 a0_0, .int .i64 a0_1, .int .i64 a0_2, .int .i64 a0_3, .int .i64 a0_4], .int .u8 a1] w fun e w' => e = .returned (.bool r) ∧ Below w.heap.size w w' := by
 obtain ⟨⟨s, b⟩, A80, H⟩ := Option.bind_eq_some_iff.mp h; have A8 := Aside0.mk A80; clear A80 h; replace H : (if s.size ≤ 9223372036854775807 then slices_Contains_byte_byte.f k (bytesOf s) a1 else none) = some r := H
 by_cases hs : s.size ≤ 9223372036854775807
 · rw [if_pos hs] at H
   have HC : Aside0 (∀ (W : World) (ad : Option Addr) (c : Nat), Kd.C (Kd.int .u8) W ad s.size (bytesOf s) → s.size ≤ c → Calls Tryz.prog 52 #[.slice ad s.size c, .int .u8 a1] W fun e w' => e = .returned (.bool r) ∧ Drawn0 W w') := by
     refine ⟨fun W ad c h1 h2 => ?_⟩; rw [← bytesOf_length s] at h1 h2 ⊢; exact slices_Contains_byte_byte.calls k ad c (bytesOf s) a1 r W h1 h2 H
   clear H; have HS := Aside0.mk hs; clear hs; have kb := fun (W : World) => print_bytes (P := Tryz.prog) 9 22 5 Tryz.underlying9 Tryz.underlying22 Tryz.underlying5 s W
   have HB := Aside0.mk (Below.refl w.heap.size w)
   go_enter Tryz.func29, Tryz.ntmps29
   go_wp2_with (first | (go_at_call 22; refine (impl_formOf.calls k a0_0 s b _ A8.out).mono ?_; rintro e w' ⟨rfl, ⟨nd, rfl⟩⟩) | (go_at_call 52; refine (HC.out _ _ _ ?hrd (grownCap_ge _ _ _ _)).mono ?_; (case hrd => exact impl_hasPart.reads _ s _ (by simp) HS.out); rintro e w' ⟨rfl, ⟨nd2, rfl⟩⟩))
   go_ret
   refine ⟨rfl, ?_⟩; exact pw_below_drewN (bytes_below (pw_below_drewN (below_alloc HB.out _) _) (below_size (pw_below_drewN (below_alloc HB.out _) _)) _ _) _
 · rw [if_neg hs] at H
   exact absurd H (by simp)

/-! ### impl_in: function 30 -/
def impl_in.f (a0 : Int) (a1 : Int) (a2 : Int) : Option (Bool) := if a0 ≥ a1 then (some (decide (a0 ≤ a2))) else (some false)
set_option maxHeartbeats 8000000 in
set_option maxRecDepth 100000 in
theorem impl_in.calls (a0 : Int) (a1 : Int) (a2 : Int) (r : Bool) (w : World) (h : impl_in.f a0 a1 a2 = some r) :
    Calls Tryz.prog 30 #[.int .i64 a0, .int .i64 a1, .int .i64 a2] w fun e w' => e = .returned (.bool r) ∧ Drawn0 w w' := by
  have H : (if a0 ≥ a1 then (some (decide (a0 ≤ a2))) else (some false)) = some r := h; clear h
  by_cases c4 : a0 ≥ a1
  · rw [if_pos c4] at H
    have c4b0 : decide (a1 ≤ a0) = true := decide_eq_true c4; clear c4; obtain rfl := Option.some.inj H
    go_enter Tryz.func30, Tryz.ntmps30
    go_wp2
    go_ret
    exact ⟨by first | rfl | (simp; done) | (simp [*]; done), by repeat (first | exact Drawn0.refl _ | apply Drawn0.step)⟩
  · rw [if_neg c4] at H
    have c4b0 : decide (a1 ≤ a0) = false := decide_eq_false c4; clear c4; obtain rfl := Option.some.inj H
    go_enter Tryz.func30, Tryz.ntmps30
    go_wp2
    go_ret
    exact ⟨by first | rfl | (simp; done) | (simp [*]; done), by repeat (first | exact Drawn0.refl _ | apply Drawn0.step)⟩

end Go.Proofs.YtlmcikjjeidnfaaGreatDoor.PFnTexts
