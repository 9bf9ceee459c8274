-- Written by a program of this session (wip/patch.py turns a copy of the kit's print): the functions that the law reaches, and their walks.
import Derived.Test.YtpcladboobfkhaaPFnWorkx0
import Derived.Test.YtpcladboobfkhaaPFnWorkx10
import Derived.Test.YtpcladboobfkhaaPFnWorkx11
import Derived.Test.YtpcladboobfkhaaPFnWorkx12
import Derived.Test.YtpcladboobfkhaaPFnWorkx13
import Derived.Test.YtpcladboobfkhaaCFnWork
import Derived.Test.YtpcladboobfkhaaEFnWork
namespace Go.Proofs.Ytpcladboobfkhaa.PFnWork
open Go.RowKit Go.Proofs.YtpcladboobfkhaaW.PrintWords Go.Proofs.YtpcladboobfkhaaW.PrintLast Go.Proofs.YtpcladboobfkhaaW.PrintMore Go.Proofs.YtpcladboobfkhaaW.Mine
attribute [local go_sem] dsc dhs dha ddr ddrN
attribute [local go_sem] max2_int min2_int max_two min_two max_three min_three max_four min_four   -- for this text's walks alone
set_option linter.unusedVariables false
set_option linter.unusedSimpArgs false

/-! ### impl_made: function 22 -/
def impl_made.f (k : Nat) (a0_0 : Int) (a0_1 : Int) (a0_2 : Int) (a0_3 : Int) (a0_4 : Int) (a1_0 : Int) (a1_1 : Bool) (a1_2 : Int) (a1_3 : Int) (a1_4 : Int) (a1_5 : Int) (a2_0 : Int) (a2_1 : Bool) (a2_2 : Int) (a2_3 : Int) (a2_4 : Int) (a2_5 : Int) (a3_0 : Int) (a3_1 : Bool) (a3_2 : Int) (a3_3 : Int) (a3_4 : Int) (a3_5 : Int) : Option (Int × Bool × Int × Int × Int × Int) := if a0_0 = 1 then ((impl_Plain.f a0_4).bind fun bE => (some (bE.1, bE.2.1, bE.2.2.1, bE.2.2.2.1, bE.2.2.2.2.1, bE.2.2.2.2.2))) else (if a0_0 = 2 then ((impl_Plain.f (wrap64 (a1_0 + a2_0))).bind fun bF => (some (bF.1, bF.2.1, bF.2.2.1, bF.2.2.2.1, bF.2.2.2.2.1, bF.2.2.2.2.2))) else (if a0_0 = 3 then (some (a1_0, a1_1, a1_2, a1_3, a1_4, a1_5)) else (if a0_0 = 4 then ((impl_Weaken.f k a1_0 a1_1 a1_2 a1_3 a1_4 a1_5 a2_0).bind fun bG => (some (bG.1, bG.2.1, bG.2.2.1, bG.2.2.2.1, bG.2.2.2.2.1, bG.2.2.2.2.2))) else (if a0_0 = 5 then ((impl_Narrow.f k a1_0 a1_1 a1_2 a1_3 a1_4 a1_5 a2_0).bind fun bH => (some (bH.1, bH.2.1, bH.2.2.1, bH.2.2.2.1, bH.2.2.2.2.1, bH.2.2.2.2.2))) else (if a0_0 = 6 then ((impl_Point.f k a1_0 a1_1 a1_2 a1_3 a1_4 a1_5 (wrap64 ((wrap64 (a1_0 + a2_0)) + a0_4))).bind fun bI => (some (bI.1, bI.2.1, bI.2.2.1, bI.2.2.2.1, bI.2.2.2.2.1, bI.2.2.2.2.2))) else (if a0_0 = 7 then ((impl_SealBy.f k a1_0 a1_1 a1_2 a1_3 a1_4 a1_5 a2_0 a2_1 a2_2 a2_3 a2_4 a2_5).bind fun bJ => (some (bJ.1, bJ.2.1, bJ.2.2.1, bJ.2.2.2.1, bJ.2.2.2.2.1, bJ.2.2.2.2.2))) else (if a0_0 = 8 then ((impl_OpenBy.f k a1_0 a1_1 a1_2 a1_3 a1_4 a1_5 a2_0 a2_1 a2_2 a2_3 a2_4 a2_5).bind fun bK => (some (bK.1, bK.2.1, bK.2.2.1, bK.2.2.2.1, bK.2.2.2.2.1, bK.2.2.2.2.2))) else (if a0_0 = 9 then (if a1_1 = true then ((impl_Plain.f 1).bind fun bv => (some (bv.1, bv.2.1, bv.2.2.1, bv.2.2.2.1, bv.2.2.2.2.1, bv.2.2.2.2.2))) else ((impl_Plain.f 0).bind fun bw => (some (bw.1, bw.2.1, bw.2.2.1, bw.2.2.2.1, bw.2.2.2.2.1, bw.2.2.2.2.2)))) else (some (a3_0, a3_1, a3_2, a3_3, a3_4, a3_5))))))))))
theorem impl_made.mono : ∀ a0 a1 a2 a3 a4 a5 a6 a7 a8 a9 a10 a11 a12 a13 a14 a15 a16 a17 a18 a19 a20 a21 a22 k, LeO (impl_made.f k a0 a1 a2 a3 a4 a5 a6 a7 a8 a9 a10 a11 a12 a13 a14 a15 a16 a17 a18 a19 a20 a21 a22) (impl_made.f (k + 1) a0 a1 a2 a3 a4 a5 a6 a7 a8 a9 a10 a11 a12 a13 a14 a15 a16 a17 a18 a19 a20 a21 a22) := by
 intro a0 a1 a2 a3 a4 a5 a6 a7 a8 a9 a10 a11 a12 a13 a14 a15 a16 a17 a18 a19 a20 a21 a22 k
 unfold impl_made.f
 repeat' first
   | (with_reducible exact impl_Narrow.mono _ _ _ _ _ _ _ _)
   | (with_reducible exact impl_OpenBy.mono _ _ _ _ _ _ _ _ _ _ _ _ _)
   | (with_reducible exact impl_Point.mono _ _ _ _ _ _ _ _)
   | (with_reducible exact impl_SealBy.mono _ _ _ _ _ _ _ _ _ _ _ _ _)
   | (with_reducible exact impl_Weaken.mono _ _ _ _ _ _ _ _)
   | (with_reducible exact LeO.refl _)
   | (with_reducible exact LeO.none _)
   | (with_reducible refine LeO.ite ?_ ?_)
   | (with_reducible refine LeO.bind ?_ (fun _ => ?_))
   | exact impl_Narrow.mono _ _ _ _ _ _ _ _
   | exact impl_OpenBy.mono _ _ _ _ _ _ _ _ _ _ _ _ _
   | exact impl_Point.mono _ _ _ _ _ _ _ _
   | exact impl_SealBy.mono _ _ _ _ _ _ _ _ _ _ _ _ _
   | exact impl_Weaken.mono _ _ _ _ _ _ _ _
   | exact LeO.none _
   | refine LeO.ite ?_ ?_
   | refine LeO.bind ?_ (fun _ => ?_)
set_option maxHeartbeats 8000000 in
set_option maxRecDepth 100000 in
theorem impl_made.calls (k : Nat) (a0_0 : Int) (a0_1 : Int) (a0_2 : Int) (a0_3 : Int) (a0_4 : Int) (a1_0 : Int) (a1_1 : Bool) (a1_2 : Int) (a1_3 : Int) (a1_4 : Int) (a1_5 : Int) (a2_0 : Int) (a2_1 : Bool) (a2_2 : Int) (a2_3 : Int) (a2_4 : Int) (a2_5 : Int) (a3_0 : Int) (a3_1 : Bool) (a3_2 : Int) (a3_3 : Int) (a3_4 : Int) (a3_5 : Int) (r1 : Int) (r2 : Bool) (r3 : Int) (r4 : Int) (r5 : Int) (r6 : Int) (w : World) (h : impl_made.f k a0_0 a0_1 a0_2 a0_3 a0_4 a1_0 a1_1 a1_2 a1_3 a1_4 a1_5 a2_0 a2_1 a2_2 a2_3 a2_4 a2_5 a3_0 a3_1 a3_2 a3_3 a3_4 a3_5 = some (r1, r2, r3, r4, r5, r6)) :
  Calls Try.prog 22 #[.agg #[.int .i64 a0_0, .int .i64 a0_1, .int .i64 a0_2, .int .i64 a0_3, .int .i64 a0_4], .agg #[.int .i64 a1_0, .bool a1_1, .int .i64 a1_2, .int .i64 a1_3, .int .i64 a1_4, .int .i64 a1_5], .agg #[.int .i64 a2_0, .bool a2_1, .int .i64 a2_2, .int .i64 a2_3, .int .i64 a2_4, .int .i64 a2_5], .agg #[.int .i64 a3_0, .bool a3_1, .int .i64 a3_2, .int .i64 a3_3, .int .i64 a3_4, .int .i64 a3_5]] w fun e w' => e = .returned (.agg #[.int .i64 r1, .bool r2, .int .i64 r3, .int .i64 r4, .int .i64 r5, .int .i64 r6]) ∧ Below w.heap.size w w' := by
 have hu25 := Try.underlying25; have hu29 := Try.underlying29; have H : (if a0_0 = 1 then ((impl_Plain.f a0_4).bind fun bE => (some (bE.1, bE.2.1, bE.2.2.1, bE.2.2.2.1, bE.2.2.2.2.1, bE.2.2.2.2.2))) else (if a0_0 = 2 then ((impl_Plain.f (wrap64 (a1_0 + a2_0))).bind fun bF => (some (bF.1, bF.2.1, bF.2.2.1, bF.2.2.2.1, bF.2.2.2.2.1, bF.2.2.2.2.2))) else (if a0_0 = 3 then (some (a1_0, a1_1, a1_2, a1_3, a1_4, a1_5)) else (if a0_0 = 4 then ((impl_Weaken.f k a1_0 a1_1 a1_2 a1_3 a1_4 a1_5 a2_0).bind fun bG => (some (bG.1, bG.2.1, bG.2.2.1, bG.2.2.2.1, bG.2.2.2.2.1, bG.2.2.2.2.2))) else (if a0_0 = 5 then ((impl_Narrow.f k a1_0 a1_1 a1_2 a1_3 a1_4 a1_5 a2_0).bind fun bH => (some (bH.1, bH.2.1, bH.2.2.1, bH.2.2.2.1, bH.2.2.2.2.1, bH.2.2.2.2.2))) else (if a0_0 = 6 then ((impl_Point.f k a1_0 a1_1 a1_2 a1_3 a1_4 a1_5 (wrap64 ((wrap64 (a1_0 + a2_0)) + a0_4))).bind fun bI => (some (bI.1, bI.2.1, bI.2.2.1, bI.2.2.2.1, bI.2.2.2.2.1, bI.2.2.2.2.2))) else (if a0_0 = 7 then ((impl_SealBy.f k a1_0 a1_1 a1_2 a1_3 a1_4 a1_5 a2_0 a2_1 a2_2 a2_3 a2_4 a2_5).bind fun bJ => (some (bJ.1, bJ.2.1, bJ.2.2.1, bJ.2.2.2.1, bJ.2.2.2.2.1, bJ.2.2.2.2.2))) else (if a0_0 = 8 then ((impl_OpenBy.f k a1_0 a1_1 a1_2 a1_3 a1_4 a1_5 a2_0 a2_1 a2_2 a2_3 a2_4 a2_5).bind fun bK => (some (bK.1, bK.2.1, bK.2.2.1, bK.2.2.2.1, bK.2.2.2.2.1, bK.2.2.2.2.2))) else (if a0_0 = 9 then (if a1_1 = true then ((impl_Plain.f 1).bind fun bv => (some (bv.1, bv.2.1, bv.2.2.1, bv.2.2.2.1, bv.2.2.2.2.1, bv.2.2.2.2.2))) else ((impl_Plain.f 0).bind fun bw => (some (bw.1, bw.2.1, bw.2.2.1, bw.2.2.2.1, bw.2.2.2.2.1, bw.2.2.2.2.2)))) else (some (a3_0, a3_1, a3_2, a3_3, a3_4, a3_5))))))))))) = some (r1, r2, r3, r4, r5, r6) := h; clear h
 by_cases c5 : a0_0 = 1
 ·rw [if_pos c5] at H
  have c5b0 : (a0_0 == 1) = true := beq_iff_eq.mpr c5; have c5b1 : (a0_0 != 1) = false := bne_eq_false_iff_eq.mpr c5; clear c5; replace H := Option.bind_eq_some_iff.mp H; obtain ⟨⟨bZ, b0, b1, b2, b3, b4⟩, A60, H⟩ := H; (try dsimp only at H); have A6 := Aside0.mk A60; clear A60; simp only [Option.some.injEq, Prod.mk.injEq] at H; obtain ⟨rfl, rfl, rfl, rfl, rfl, rfl⟩ := H
  go_enter Try.func22, Try.ntmps22
  go_wp2_with (first | (go_at_call 45; (with_reducible refine dmn (impl_Plain.calls (h := A6.out) (w := _)) ?_); intro x1 hb1 hc; have hw := dsz (n := w.heap.size + 1 + 1 + 1 + 1 + 1) hb1; have z := dl5 hw))
  refine bodyPost_ret (drc rfl _ _ rfl (by go_simp; rfl)) rfl ?_; exact ⟨rfl, dfi⟩
 ·rw [if_neg c5] at H
  have c5b0 : (a0_0 == 1) = false := beq_eq_false_iff_ne.mpr c5; have c5b1 : (a0_0 != 1) = true := bne_iff_ne.mpr c5
  by_cases c22 : a0_0 = 2
  ·rw [if_pos c22] at H
   have c22b0 : (a0_0 == 2) = true := beq_iff_eq.mpr c22; have c22b1 : (a0_0 != 2) = false := bne_eq_false_iff_eq.mpr c22; clear c22; replace H := Option.bind_eq_some_iff.mp H; obtain ⟨⟨b5, b6, b7, b8, b9, da⟩, A230, H⟩ := H; (try dsimp only at H); have A23 := Aside0.mk A230; clear A230; simp only [Option.some.injEq, Prod.mk.injEq] at H; obtain ⟨rfl, rfl, rfl, rfl, rfl, rfl⟩ := H
   go_enter Try.func22, Try.ntmps22
   go_wp2_with (first | (go_at_call 45; (with_reducible refine dmn (impl_Plain.calls (h := A23.out) (w := _)) ?_); intro x1 hb1 hc; have hw := dsz (n := w.heap.size + 1 + 1 + 1 + 1 + 1) hb1; have z := dl5 hw))
   refine bodyPost_ret (drc rfl _ _ rfl (by go_simp; rfl)) rfl ?_; exact ⟨rfl, dfi⟩
  ·rw [if_neg c22] at H
   have c22b0 : (a0_0 == 2) = false := beq_eq_false_iff_ne.mpr c22; have c22b1 : (a0_0 != 2) = true := bne_iff_ne.mpr c22
   by_cases c44 : a0_0 = 3
   ·rw [if_pos c44] at H
    have c44b0 : (a0_0 == 3) = true := beq_iff_eq.mpr c44; have c44b1 : (a0_0 != 3) = false := bne_eq_false_iff_eq.mpr c44; clear c44; simp only [Option.some.injEq, Prod.mk.injEq] at H; obtain ⟨rfl, rfl, rfl, rfl, rfl, rfl⟩ := H
    go_enter Try.func22, Try.ntmps22
    go_wp2
    refine bodyPost_ret (drc rfl _ _ rfl (by go_simp; rfl)) rfl ?_; exact ⟨rfl, dfi⟩
   ·rw [if_neg c44] at H
    have c44b0 : (a0_0 == 3) = false := beq_eq_false_iff_ne.mpr c44; have c44b1 : (a0_0 != 3) = true := bne_iff_ne.mpr c44
    by_cases c62 : a0_0 = 4
    ·rw [if_pos c62] at H
     have c62b0 : (a0_0 == 4) = true := beq_iff_eq.mpr c62; have c62b1 : (a0_0 != 4) = false := bne_eq_false_iff_eq.mpr c62; clear c62; replace H := Option.bind_eq_some_iff.mp H; obtain ⟨⟨db, dc, dd, de, df, dg⟩, A630, H⟩ := H; (try dsimp only at H); have A63 := Aside0.mk A630; clear A630; simp only [Option.some.injEq, Prod.mk.injEq] at H; obtain ⟨rfl, rfl, rfl, rfl, rfl, rfl⟩ := H
     go_enter Try.func22, Try.ntmps22
     go_wp2_with (first | (go_at_call 50; (with_reducible refine dmn (impl_Weaken.calls (h := A63.out) (w := _)) ?_); intro x1 hb1 hc; have hw := dsz (n := w.heap.size + 1 + 1 + 1 + 1 + 1) hb1; have z := dl5 hw))
     refine bodyPost_ret (drc rfl _ _ rfl (by go_simp; rfl)) rfl ?_; exact ⟨rfl, dfi⟩
    ·rw [if_neg c62] at H
     have c62b0 : (a0_0 == 4) = false := beq_eq_false_iff_ne.mpr c62; have c62b1 : (a0_0 != 4) = true := bne_iff_ne.mpr c62
     by_cases c84 : a0_0 = 5
     ·rw [if_pos c84] at H
      have c84b0 : (a0_0 == 5) = true := beq_iff_eq.mpr c84; have c84b1 : (a0_0 != 5) = false := bne_eq_false_iff_eq.mpr c84; clear c84; replace H := Option.bind_eq_some_iff.mp H; obtain ⟨⟨dh, di, dj, dk, dl, dm⟩, A850, H⟩ := H; (try dsimp only at H); have A85 := Aside0.mk A850; clear A850; simp only [Option.some.injEq, Prod.mk.injEq] at H; obtain ⟨rfl, rfl, rfl, rfl, rfl, rfl⟩ := H
      go_enter Try.func22, Try.ntmps22
      go_wp2_with (first | (go_at_call 51; (with_reducible refine dmn (impl_Narrow.calls (h := A85.out) (w := _)) ?_); intro x1 hb1 hc; have hw := dsz (n := w.heap.size + 1 + 1 + 1 + 1 + 1) hb1; have z := dl5 hw))
      refine bodyPost_ret (drc rfl _ _ rfl (by go_simp; rfl)) rfl ?_; exact ⟨rfl, dfi⟩
     ·rw [if_neg c84] at H
      have c84b0 : (a0_0 == 5) = false := beq_eq_false_iff_ne.mpr c84; have c84b1 : (a0_0 != 5) = true := bne_iff_ne.mpr c84
      by_cases c106 : a0_0 = 6
      ·rw [if_pos c106] at H
       have c106b0 : (a0_0 == 6) = true := beq_iff_eq.mpr c106; have c106b1 : (a0_0 != 6) = false := bne_eq_false_iff_eq.mpr c106; clear c106; replace H := Option.bind_eq_some_iff.mp H; obtain ⟨⟨dn, dp, dq, dr, ds, dt⟩, A1070, H⟩ := H; (try dsimp only at H); have A107 := Aside0.mk A1070; clear A1070; simp only [Option.some.injEq, Prod.mk.injEq] at H; obtain ⟨rfl, rfl, rfl, rfl, rfl, rfl⟩ := H
       go_enter Try.func22, Try.ntmps22
       go_wp2_with (first | (go_at_call 19; (with_reducible refine dmn (impl_Point.calls (h := A107.out) (w := _)) ?_); intro x1 hb1 hc; have hw := dsz (n := w.heap.size + 1 + 1 + 1 + 1 + 1) hb1; have z := dl5 hw))
       refine bodyPost_ret (drc rfl _ _ rfl (by go_simp; rfl)) rfl ?_; exact ⟨rfl, dfi⟩
      ·rw [if_neg c106] at H
       have c106b0 : (a0_0 == 6) = false := beq_eq_false_iff_ne.mpr c106; have c106b1 : (a0_0 != 6) = true := bne_iff_ne.mpr c106
       by_cases c128 : a0_0 = 7
       ·rw [if_pos c128] at H
        have c128b0 : (a0_0 == 7) = true := beq_iff_eq.mpr c128; have c128b1 : (a0_0 != 7) = false := bne_eq_false_iff_eq.mpr c128; clear c128; replace H := Option.bind_eq_some_iff.mp H; obtain ⟨⟨du, dv, dw, dx, dy, dz⟩, A1290, H⟩ := H; (try dsimp only at H); have A129 := Aside0.mk A1290; clear A1290; simp only [Option.some.injEq, Prod.mk.injEq] at H; obtain ⟨rfl, rfl, rfl, rfl, rfl, rfl⟩ := H
        go_enter Try.func22, Try.ntmps22
        go_wp2_with (first | (go_at_call 52; (with_reducible refine dmn (impl_SealBy.calls (h := A129.out) (w := _)) ?_); intro x1 hb1 hc; have hw := dsz (n := w.heap.size + 1 + 1 + 1 + 1 + 1) hb1; have z := dl5 hw))
        refine bodyPost_ret (drc rfl _ _ rfl (by go_simp; rfl)) rfl ?_; exact ⟨rfl, dfi⟩
       ·rw [if_neg c128] at H
        have c128b0 : (a0_0 == 7) = false := beq_eq_false_iff_ne.mpr c128; have c128b1 : (a0_0 != 7) = true := bne_iff_ne.mpr c128
        by_cases c150 : a0_0 = 8
        ·rw [if_pos c150] at H
         have c150b0 : (a0_0 == 8) = true := beq_iff_eq.mpr c150; have c150b1 : (a0_0 != 8) = false := bne_eq_false_iff_eq.mpr c150; clear c150; replace H := Option.bind_eq_some_iff.mp H; obtain ⟨⟨dA, dB, dC, dD, dE, dF⟩, A1510, H⟩ := H; (try dsimp only at H); have A151 := Aside0.mk A1510; clear A1510; simp only [Option.some.injEq, Prod.mk.injEq] at H; obtain ⟨rfl, rfl, rfl, rfl, rfl, rfl⟩ := H
         go_enter Try.func22, Try.ntmps22
         go_wp2_with (first | (go_at_call 53; (with_reducible refine dmn (impl_OpenBy.calls (h := A151.out) (w := _)) ?_); intro x1 hb1 hc; have hw := dsz (n := w.heap.size + 1 + 1 + 1 + 1 + 1) hb1; have z := dl5 hw))
         refine bodyPost_ret (drc rfl _ _ rfl (by go_simp; rfl)) rfl ?_; exact ⟨rfl, dfi⟩
        ·rw [if_neg c150] at H
         have c150b0 : (a0_0 == 8) = false := beq_eq_false_iff_ne.mpr c150; have c150b1 : (a0_0 != 8) = true := bne_iff_ne.mpr c150
         by_cases c172 : a0_0 = 9
         ·rw [if_pos c172] at H
          have c172b0 : (a0_0 == 9) = true := beq_iff_eq.mpr c172; have c172b1 : (a0_0 != 9) = false := bne_eq_false_iff_eq.mpr c172; clear c172
          by_cases c173 : a1_1 = true
          ·subst c173
           rw [if_pos rfl] at H; (try dsimp only at H); replace H := Option.bind_eq_some_iff.mp H; obtain ⟨⟨dG, dH, dI, dJ, dK, dL⟩, A1740, H⟩ := H; (try dsimp only at H); have A174 := Aside0.mk A1740; clear A1740; simp only [Option.some.injEq, Prod.mk.injEq] at H; obtain ⟨rfl, rfl, rfl, rfl, rfl, rfl⟩ := H
           go_enter Try.func22, Try.ntmps22
           go_wp2_with (first | (go_at_call 45; (with_reducible refine dmn (impl_Plain.calls (h := A174.out) (w := _)) ?_); intro x1 hb1 hc; have hw := dsz (n := w.heap.size + 1 + 1 + 1 + 1 + 1) hb1; have z := dl5 hw))
           refine bodyPost_ret (drc rfl _ _ rfl (by go_simp; rfl)) rfl ?_; exact ⟨rfl, dfi⟩
          ·replace c173 := Bool.eq_false_iff.mpr c173
           subst c173; rw [if_neg (show ¬ (false = true) by decide)] at H; (try dsimp only at H); replace H := Option.bind_eq_some_iff.mp H; obtain ⟨⟨dM, dN, dO, dP, dQ, dR⟩, A1930, H⟩ := H; (try dsimp only at H); have A193 := Aside0.mk A1930; clear A1930; simp only [Option.some.injEq, Prod.mk.injEq] at H; obtain ⟨rfl, rfl, rfl, rfl, rfl, rfl⟩ := H
           go_enter Try.func22, Try.ntmps22
           go_wp2_with (first | (go_at_call 45; (with_reducible refine dmn (impl_Plain.calls (h := A193.out) (w := _)) ?_); intro x1 hb1 hc; have hw := dsz (n := w.heap.size + 1 + 1 + 1 + 1 + 1) hb1; have z := dl5 hw))
           refine bodyPost_ret (drc rfl _ _ rfl (by go_simp; rfl)) rfl ?_; exact ⟨rfl, dfi⟩
         ·rw [if_neg c172] at H
          have c172b0 : (a0_0 == 9) = false := beq_eq_false_iff_ne.mpr c172; have c172b1 : (a0_0 != 9) = true := bne_iff_ne.mpr c172; simp only [Option.some.injEq, Prod.mk.injEq] at H; obtain ⟨rfl, rfl, rfl, rfl, rfl, rfl⟩ := H
          go_enter Try.func22, Try.ntmps22
          go_wp2
          refine bodyPost_ret (drc rfl _ _ rfl (by go_simp; rfl)) rfl ?_; exact ⟨rfl, dfi⟩
end Go.Proofs.Ytpcladboobfkhaa.PFnWork
