-- Written by a program of this session (wip/patch.py turns a copy of the kit's print): the functions that the law reaches, and their walks.
import Derived.Test.YteamcnoabglobaaDoorPFnExactInsTextx0
import Derived.Test.YteamcnoabglobaaDoorPFnExactInsTextx1
import Derived.Test.YteamcnoabglobaaDoorCFnExactInsText
namespace Go.Proofs.YteamcnoabglobaaDoor.PFnExactInsText
open Go.RowKit Go.Proofs.YteamcnoabglobaaDoorW.PrintWords Go.Proofs.YteamcnoabglobaaDoorW.PrintLast Go.Proofs.YteamcnoabglobaaDoorW.PrintMore Go.Proofs.YteamcnoabglobaaDoorW.Mine
attribute [local go_sem] max2_int min2_int max_two min_two max_three min_three max_four min_four   -- for this text's walks alone
set_option linter.unusedVariables false
set_option linter.unusedSimpArgs false

/-! ### spec_InsText: function 5 -/
mutual
def spec_InsText.j0 : Nat → Int → ByteArray → Int → Int → Int → Int → Int → Option (ByteArray)
 | 0, _, _, _, _, _, _, _ => none
 | k + 1, x3, x4, bt, bu, bq, br, bp => if (Go.bits .and .i64 x3 2) = 0 then (spec_InsText.j1 k x3 x4 bt bu bq br bp) else (if x4.size + 2 ≤ 9223372036854775807 then ((spec_l7Digits.f k bq).bind fun bj => (if (x4 ++ (⟨#[32, 114]⟩ : ByteArray)).size + bj.size ≤ 9223372036854775807 then (spec_InsText.j1 k x3 ((x4 ++ (⟨#[32, 114]⟩ : ByteArray)) ++ bj) bt bu bq br bp) else (none))) else (none))
def spec_InsText.j1 : Nat → Int → ByteArray → Int → Int → Int → Int → Int → Option (ByteArray)
 | 0, _, _, _, _, _, _, _ => none
 | k + 1, x3, x4, bt, bu, bq, br, bp => if (Go.bits .and .i64 x3 4) = 0 then (if (Go.bits .and .i64 x3 8) = 0 then (some x4) else (if x4.size + 1 ≤ 9223372036854775807 then ((spec_l7Digits.f k bp).bind fun bl => (if (x4 ++ (⟨#[32]⟩ : ByteArray)).size + bl.size ≤ 9223372036854775807 then (some ((x4 ++ (⟨#[32]⟩ : ByteArray)) ++ bl)) else (none))) else (none))) else (if x4.size + 2 ≤ 9223372036854775807 then ((spec_l7Digits.f k br).bind fun bg => (if (x4 ++ (⟨#[32, 114]⟩ : ByteArray)).size + bg.size ≤ 9223372036854775807 then (if (Go.bits .and .i64 x3 8) = 0 then (some ((x4 ++ (⟨#[32, 114]⟩ : ByteArray)) ++ bg)) else (if ((x4 ++ (⟨#[32, 114]⟩ : ByteArray)) ++ bg).size + 1 ≤ 9223372036854775807 then ((spec_l7Digits.f k bp).bind fun bi => (if (((x4 ++ (⟨#[32, 114]⟩ : ByteArray)) ++ bg) ++ (⟨#[32]⟩ : ByteArray)).size + bi.size ≤ 9223372036854775807 then (some ((((x4 ++ (⟨#[32, 114]⟩ : ByteArray)) ++ bg) ++ (⟨#[32]⟩ : ByteArray)) ++ bi)) else (none))) else (none))) else (none))) else (none))
end
def spec_InsText.f (k : Nat) (a0_0 : Int) (a0_1 : Int) (a0_2 : Int) (a0_3 : Int) (a0_4 : Int) : Option (ByteArray) := (spec_InsOk.f a0_0 a0_1 a0_2 a0_3 a0_4).bind fun bo => (if bo = true then ((spec_l6Has.f a0_0).bind fun bb => ((spec_l7Names.f).bind fun bc => (if 0 ≤ a0_0 then (if a0_0 < (bc.length : Int) then (if (Go.bits .and .i64 bb 1) = 0 then (spec_InsText.j0 k bb (rdOf ByteArray.empty bc a0_0) a0_0 a0_1 a0_2 a0_3 a0_4) else (if (rdOf ByteArray.empty bc a0_0).size + 2 ≤ 9223372036854775807 then ((spec_l7Digits.f k a0_1).bind fun bf => (if ((rdOf ByteArray.empty bc a0_0) ++ (⟨#[32, 114]⟩ : ByteArray)).size + bf.size ≤ 9223372036854775807 then (spec_InsText.j0 k bb (((rdOf ByteArray.empty bc a0_0) ++ (⟨#[32, 114]⟩ : ByteArray)) ++ bf) a0_0 a0_1 a0_2 a0_3 a0_4) else (none))) else (none))) else (none)) else (none)))) else (some (⟨#[]⟩ : ByteArray)))
theorem spec_InsText.mono_l : ∀ k, (∀ y0 y1 y2 y3 y4 y5 y6, LeO (spec_InsText.j0 k y0 y1 y2 y3 y4 y5 y6) (spec_InsText.j0 (k + 1) y0 y1 y2 y3 y4 y5 y6)) ∧ (∀ y0 y1 y2 y3 y4 y5 y6, LeO (spec_InsText.j1 k y0 y1 y2 y3 y4 y5 y6) (spec_InsText.j1 (k + 1) y0 y1 y2 y3 y4 y5 y6))
 | 0 => ⟨fun _ _ _ _ _ _ _ r h => by simp [spec_InsText.j0] at h, fun _ _ _ _ _ _ _ r h => by simp [spec_InsText.j1] at h⟩
 | k + 1 => by
  obtain ⟨ih0, ih1⟩ := spec_InsText.mono_l k; refine ⟨?_, ?_⟩
  ·intro y0 y1 y2 y3 y4 y5 y6
   unfold spec_InsText.j0
   repeat' first
   | (with_reducible exact ih0 _ _ _ _ _ _ _)
   | (with_reducible exact ih1 _ _ _ _ _ _ _)
   | (with_reducible exact spec_l7Digits.mono _ _)
   | (with_reducible exact LeO.refl _)
   | (with_reducible exact LeO.none _)
   | (with_reducible refine LeO.ite ?_ ?_)
   | (with_reducible refine LeO.bind ?_ (fun _ => ?_))
   | exact ih0 _ _ _ _ _ _ _
   | exact ih1 _ _ _ _ _ _ _
   | exact spec_l7Digits.mono _ _
   | exact LeO.none _
   | refine LeO.ite ?_ ?_
   | refine LeO.bind ?_ (fun _ => ?_)
  ·intro y0 y1 y2 y3 y4 y5 y6
   unfold spec_InsText.j1
   repeat' first
   | (with_reducible exact ih0 _ _ _ _ _ _ _)
   | (with_reducible exact ih1 _ _ _ _ _ _ _)
   | (with_reducible exact spec_l7Digits.mono _ _)
   | (with_reducible exact LeO.refl _)
   | (with_reducible exact LeO.none _)
   | (with_reducible refine LeO.ite ?_ ?_)
   | (with_reducible refine LeO.bind ?_ (fun _ => ?_))
   | exact ih0 _ _ _ _ _ _ _
   | exact ih1 _ _ _ _ _ _ _
   | exact spec_l7Digits.mono _ _
   | exact LeO.none _
   | refine LeO.ite ?_ ?_
   | refine LeO.bind ?_ (fun _ => ?_)
theorem spec_InsText.mono : ∀ a0 a1 a2 a3 a4 k, LeO (spec_InsText.f k a0 a1 a2 a3 a4) (spec_InsText.f (k + 1) a0 a1 a2 a3 a4) := by
 intro a0 a1 a2 a3 a4 k; obtain ⟨ih0, ih1⟩ := spec_InsText.mono_l k
 unfold spec_InsText.f
 repeat' first
   | (with_reducible exact ih0 _ _ _ _ _ _ _)
   | (with_reducible exact ih1 _ _ _ _ _ _ _)
   | (with_reducible exact spec_l7Digits.mono _ _)
   | (with_reducible exact LeO.refl _)
   | (with_reducible exact LeO.none _)
   | (with_reducible refine LeO.ite ?_ ?_)
   | (with_reducible refine LeO.bind ?_ (fun _ => ?_))
   | exact ih0 _ _ _ _ _ _ _
   | exact ih1 _ _ _ _ _ _ _
   | exact spec_l7Digits.mono _ _
   | exact LeO.none _
   | refine LeO.ite ?_ ?_
   | refine LeO.bind ?_ (fun _ => ?_)
set_option maxHeartbeats 8000000 in
set_option maxRecDepth 100000 in
theorem spec_InsText.calls (k : Nat) (a0_0 : Int) (a0_1 : Int) (a0_2 : Int) (a0_3 : Int) (a0_4 : Int) (r : ByteArray) (w : World) (h : spec_InsText.f k a0_0 a0_1 a0_2 a0_3 a0_4 = some r) :
  Calls Tryd.prog 5 #[.agg #[.int .i64 a0_0, .int .i64 a0_1, .int .i64 a0_2, .int .i64 a0_3, .int .i64 a0_4]] w fun e w' => e = .returned (.string r) ∧ Below w.heap.size w w' := by
 have hu25 := Tryd.underlying25; have HB := Aside0.mk (Below.refl w.heap.size w); have H : ((spec_InsOk.f a0_0 a0_1 a0_2 a0_3 a0_4).bind fun bo => (if bo = true then ((spec_l6Has.f a0_0).bind fun bb => ((spec_l7Names.f).bind fun bc => (if 0 ≤ a0_0 then (if a0_0 < (bc.length : Int) then (if (Go.bits .and .i64 bb 1) = 0 then (spec_InsText.j0 k bb (rdOf ByteArray.empty bc a0_0) a0_0 a0_1 a0_2 a0_3 a0_4) else (if (rdOf ByteArray.empty bc a0_0).size + 2 ≤ 9223372036854775807 then ((spec_l7Digits.f k a0_1).bind fun bf => (if ((rdOf ByteArray.empty bc a0_0) ++ (⟨#[32, 114]⟩ : ByteArray)).size + bf.size ≤ 9223372036854775807 then (spec_InsText.j0 k bb (((rdOf ByteArray.empty bc a0_0) ++ (⟨#[32, 114]⟩ : ByteArray)) ++ bf) a0_0 a0_1 a0_2 a0_3 a0_4) else (none))) else (none))) else (none)) else (none)))) else (some (⟨#[]⟩ : ByteArray)))) = some r := h; clear h; replace H := Option.bind_eq_some_iff.mp H; obtain ⟨bo, A20, H⟩ := H; replace H : (if bo = true then ((spec_l6Has.f a0_0).bind fun bb => ((spec_l7Names.f).bind fun bc => (if 0 ≤ a0_0 then (if a0_0 < (bc.length : Int) then (if (Go.bits .and .i64 bb 1) = 0 then (spec_InsText.j0 k bb (rdOf ByteArray.empty bc a0_0) a0_0 a0_1 a0_2 a0_3 a0_4) else (if (rdOf ByteArray.empty bc a0_0).size + 2 ≤ 9223372036854775807 then ((spec_l7Digits.f k a0_1).bind fun bf => (if ((rdOf ByteArray.empty bc a0_0) ++ (⟨#[32, 114]⟩ : ByteArray)).size + bf.size ≤ 9223372036854775807 then (spec_InsText.j0 k bb (((rdOf ByteArray.empty bc a0_0) ++ (⟨#[32, 114]⟩ : ByteArray)) ++ bf) a0_0 a0_1 a0_2 a0_3 a0_4) else (none))) else (none))) else (none)) else (none)))) else (some (⟨#[]⟩ : ByteArray))) = some r := H; have A2 := Aside0.mk A20; clear A20
 by_cases c3 : bo = true
 ·subst c3
  have H1 : ((spec_l6Has.f a0_0).bind fun bb => ((spec_l7Names.f).bind fun bc => (if 0 ≤ a0_0 then (if a0_0 < (bc.length : Int) then (if (Go.bits .and .i64 bb 1) = 0 then (spec_InsText.j0 k bb (rdOf ByteArray.empty bc a0_0) a0_0 a0_1 a0_2 a0_3 a0_4) else (if (rdOf ByteArray.empty bc a0_0).size + 2 ≤ 9223372036854775807 then ((spec_l7Digits.f k a0_1).bind fun bf => (if ((rdOf ByteArray.empty bc a0_0) ++ (⟨#[32, 114]⟩ : ByteArray)).size + bf.size ≤ 9223372036854775807 then (spec_InsText.j0 k bb (((rdOf ByteArray.empty bc a0_0) ++ (⟨#[32, 114]⟩ : ByteArray)) ++ bf) a0_0 a0_1 a0_2 a0_3 a0_4) else (none))) else (none))) else (none)) else (none)))) = some r := by rw [if_pos rfl] at H; exact H
  clear H; have H := H1; clear H1; replace H := Option.bind_eq_some_iff.mp H; obtain ⟨bb, A40, H⟩ := H; replace H : ((spec_l7Names.f).bind fun bc => (if 0 ≤ a0_0 then (if a0_0 < (bc.length : Int) then (if (Go.bits .and .i64 bb 1) = 0 then (spec_InsText.j0 k bb (rdOf ByteArray.empty bc a0_0) a0_0 a0_1 a0_2 a0_3 a0_4) else (if (rdOf ByteArray.empty bc a0_0).size + 2 ≤ 9223372036854775807 then ((spec_l7Digits.f k a0_1).bind fun bf => (if ((rdOf ByteArray.empty bc a0_0) ++ (⟨#[32, 114]⟩ : ByteArray)).size + bf.size ≤ 9223372036854775807 then (spec_InsText.j0 k bb (((rdOf ByteArray.empty bc a0_0) ++ (⟨#[32, 114]⟩ : ByteArray)) ++ bf) a0_0 a0_1 a0_2 a0_3 a0_4) else (none))) else (none))) else (none)) else (none))) = some r := H; have A4 := Aside0.mk A40; clear A40; replace H := Option.bind_eq_some_iff.mp H; obtain ⟨bc, A50, H⟩ := H; replace H : (if 0 ≤ a0_0 then (if a0_0 < (bc.length : Int) then (if (Go.bits .and .i64 bb 1) = 0 then (spec_InsText.j0 k bb (rdOf ByteArray.empty bc a0_0) a0_0 a0_1 a0_2 a0_3 a0_4) else (if (rdOf ByteArray.empty bc a0_0).size + 2 ≤ 9223372036854775807 then ((spec_l7Digits.f k a0_1).bind fun bf => (if ((rdOf ByteArray.empty bc a0_0) ++ (⟨#[32, 114]⟩ : ByteArray)).size + bf.size ≤ 9223372036854775807 then (spec_InsText.j0 k bb (((rdOf ByteArray.empty bc a0_0) ++ (⟨#[32, 114]⟩ : ByteArray)) ++ bf) a0_0 a0_1 a0_2 a0_3 a0_4) else (none))) else (none))) else (none)) else (none)) = some r := H; have A5 := Aside0.mk A50; clear A50
  by_cases c6 : 0 ≤ a0_0
  ·rw [if_pos c6] at H
   have c6b0 : decide (0 ≤ a0_0) = true := decide_eq_true c6; clear c6
   by_cases c7 : a0_0 < (bc.length : Int)
   ·rw [if_pos c7] at H
    have c7b0 : decide (a0_0 < (bc.length : Int)) = true := decide_eq_true c7; clear c7; have bv := Aside0.mk H; clear H
    go_enter Tryd.func5, Tryd.ntmps5
    try go_wp2_with (first | ((with_reducible refine gate_dst (N := 1) rfl ?_); refine bxe 1 #[.int .i64 a0_0, .int .i64 a0_1, .int .i64 a0_2, .int .i64 a0_3, .int .i64 a0_4] 25 ?_; intro bm hg w9 hbox hb; have ba := hbox; have b8 := nge HB hg; have b9 := nge HB hg; replace HB := nbs HB hb; clear hb hbox hg; obtain ⟨bw, bx, bz, bA, bB⟩ := c5e ba; obtain ⟨bC, bD, bE, bF, bG⟩ := z5_ ba) | ((with_reducible refine gate_callee (f := 13) rfl ?_); refine goesM (some 6) rfl rfl Tryd.func13 (by kernel_rfl) rfl #[.agg #[.int .i64 a0_0, .int .i64 a0_1, .int .i64 a0_2, .int .i64 a0_3, .int .i64 a0_4]] rfl ?_; (with_reducible refine (spec_InsOk.calls a0_0 a0_1 a0_2 a0_3 a0_4 true _ A2.out).mono ?_); rintro e dw ⟨rfl, hb⟩; refine ⟨_, rfl, ?_⟩; replace ba := nblk ba hb; replace HB := nbs HB hb; (try clear hb); obtain ⟨bJ, bK, bL, bM, bN⟩ := c5e ba; obtain ⟨bO, bP, bQ, bR, bS⟩ := z5_ ba) | ((with_reducible refine gate_callee (f := 14) rfl ?_); refine goesM (some 10) rfl rfl Tryd.func14 (by kernel_rfl) rfl #[.int .i64 a0_0] rfl ?_; (with_reducible refine (spec_l6Has.calls a0_0 bb _ A4.out).mono ?_); rintro e da ⟨rfl, hb⟩; refine ⟨_, rfl, ?_⟩; replace ba := nblk ba hb; replace HB := nbs HB hb; (try clear hb)))
    replace ba := Aside0.mk (blk_drew ba.out); replace HB := Aside0.mk (below_drew1 HB.out); refine start_ (n := 6) (S := fun w' => w'.cell? ⟨bm, 0, none⟩ = some (.int .i64 a0_0) ∧ w'.cell? ⟨bm, 1, none⟩ = some (.int .i64 a0_1) ∧ w'.cell? ⟨bm, 2, none⟩ = some (.int .i64 a0_2) ∧ w'.cell? ⟨bm, 3, none⟩ = some (.int .i64 a0_3) ∧ w'.cell? ⟨bm, 4, none⟩ = some (.int .i64 a0_4)) (ds := []) #[false, false, false, false, false, false] (by kernel_rfl) rfl rfl ⟨(blk_cell ba.out 0).trans rfl, (blk_cell ba.out 1).trans rfl, (blk_cell ba.out 2).trans rfl, (blk_cell ba.out 3).trans rfl, (blk_cell ba.out 4).trans rfl⟩ (fun hHeld => ?_); generalize da.drew = dx at ba HB hHeld ⊢; refine rPk 1 12 #[false, true, false, false, false, false] ?_; refine rTk hHeld 2 13 #[false, true, true, false, false, false] ?_; refine one_ (i := 0) (N := some 11) #[true, true, true, false, false, false] rfl rfl (by kernel_rfl) (by decide) (fun K hK => ?_); refine goesR Tryd.func15 (by kernel_rfl) rfl #[] (by rfl) rfl rfl ?_; (with_reducible refine (spec_l7Names.calls  bc _ A5.out).mono ?_); rintro e dy ⟨dz, rfl, bT, hb⟩; refine ⟨_, rfl, ?_⟩; have bs := Aside0.mk (Kd.R_lower bT (bsz HB)); replace ba := nblk ba hb; replace HB := nbs HB hb; (try clear hb); (try clear bT); obtain ⟨dA, dB, bU⟩ := Kd.R_slice bs.out; (first | subst bU | (injection bU with f1_ f2_ f3_; have f4_ := f1_.symm; have f5_ := f3_.symm; clear f1_ f2_ f3_; subst f4_; subst f5_)); have p129 : 0 ≤ (a0_0 : Int) := of_decide_eq_true (by first | (with_reducible assumption) | assumption); have q129 : a0_0 < (bc.length : Int) := of_decide_eq_true (by first | (with_reducible assumption) | assumption); obtain ⟨db, e129, bH⟩ := Kd.at_string (Kd.R_reads' bs.out).2.2 a0_0 p129 q129
    cases e129
    replace p129 := eq_true p129; replace q129 := eq_true q129; refine hK.out _ _ ⟨(blk_cell ba.out 0).trans rfl, (blk_cell ba.out 1).trans rfl, (blk_cell ba.out 2).trans rfl, (blk_cell ba.out 3).trans rfl, (blk_cell ba.out 4).trans rfl⟩ (fun hHeld => ?_); clear hK K; refine norm_ (a' := ?_) ?_ ?_; rotate_left
    ·show Act.put _ (some 11) _ = _
     simp only [Act.put, List.setIfInBounds_toArray, List.set_cons_zero, List.set_cons_succ, i64_w, i32_w]; rfl
    refine rPk 3 14 #[true, true, true, true, false, false] ?_; refine one_ (i := 4) (N := some 15) #[true, true, true, true, true, false] rfl rfl (by kernel_rfl) (by decide) (fun K hK => ?_); refine ev_step (v := .string (rdOf ByteArray.empty bc a0_0)) (w1 := dy) ?hw ?hrun ?_; (case hw => rfl); (case hrun => go_simp; try rfl); refine hK.out _ _ ⟨(blk_cell ba.out 0).trans rfl, (blk_cell ba.out 1).trans rfl, (blk_cell ba.out 2).trans rfl, (blk_cell ba.out 3).trans rfl, (blk_cell ba.out 4).trans rfl⟩ (fun hHeld => ?_); clear hK K; refine norm_ (a' := ?_) ?_ ?_; rotate_left
    ·show Act.put _ (some 15) _ = _
     simp only [Act.put, List.setIfInBounds_toArray, List.set_cons_zero, List.set_cons_succ, i64_w, i32_w]; rfl
    refine rPk 5 4 #[true, true, true, true, true, true] ?_; refine done_ (by kernel_rfl) ?_
    go_upto_if 18 with (fail)
    go_cut [4] (fun v4 wc => ∃ (kq : Nat) (bh : ByteArray), v4 = .string bh ∧ Aside0 (spec_InsText.j0 kq bb bh a0_0 a0_1 a0_2 a0_3 a0_4 = some r) ∧ Aside0 (kq ≤ k) ∧ Aside0 (wc.heap[bm]? = some (.cells #[.int .i64 a0_0, .int .i64 a0_1, .int .i64 a0_2, .int .i64 a0_3, .int .i64 a0_4] 25 (0, 0))) ∧ Aside0 (Below w.heap.size w wc))
    case first =>
     have H := bv.out; clear bv
     by_cases c17 : (Go.bits .and .i64 bb 1) = 0
     ·rw [if_pos c17] at H
      have c17b0 : ((Go.bits .and .i64 bb 1) == 0) = true := beq_iff_eq.mpr c17; have c17b1 : ((Go.bits .and .i64 bb 1) != 0) = false := bne_eq_false_iff_eq.mpr c17; clear c17; (first | rw [c17b0] | (simp only [i64_w, i32_w]; rw [c17b0]) | skip); have H' := Aside0.mk H; clear H; go_wp2
      go_meet
      case rel => exact ⟨_, (rdOf ByteArray.empty bc a0_0), (by first | rfl | (simp; done) | (simp [*]; done)), H', ⟨by first | omega | exact Nat.le_refl _⟩, ⟨nb ba⟩, ⟨nbe HB⟩⟩
     ·rw [if_neg c17] at H
      have c17b0 : ((Go.bits .and .i64 bb 1) == 0) = false := beq_eq_false_iff_ne.mpr c17; have c17b1 : ((Go.bits .and .i64 bb 1) != 0) = true := bne_iff_ne.mpr c17; (first | rw [c17b0] | (simp only [i64_w, i32_w]; rw [c17b0]) | skip)
      by_cases c18 : (rdOf ByteArray.empty bc a0_0).size + 2 ≤ 9223372036854775807
      ·rw [if_pos c18] at H
       have c18b0 := eq_true c18; have c18b1 : decide ((rdOf ByteArray.empty bc a0_0).size + 2 ≤ 9223372036854775807) = true := decide_eq_true c18
       try have c18b2 : (9223372036854775807 < (rdOf ByteArray.empty bc a0_0).size + 2) = False := eq_false (Nat.not_lt.2 c18)
       replace H := Option.bind_eq_some_iff.mp H; obtain ⟨bf, A190, H⟩ := H; replace H : (if ((rdOf ByteArray.empty bc a0_0) ++ (⟨#[32, 114]⟩ : ByteArray)).size + bf.size ≤ 9223372036854775807 then (spec_InsText.j0 k bb (((rdOf ByteArray.empty bc a0_0) ++ (⟨#[32, 114]⟩ : ByteArray)) ++ bf) a0_0 a0_1 a0_2 a0_3 a0_4) else (none)) = some r := H; have A19 := Aside0.mk A190; clear A190
       by_cases c20 : ((rdOf ByteArray.empty bc a0_0) ++ (⟨#[32, 114]⟩ : ByteArray)).size + bf.size ≤ 9223372036854775807
       ·rw [if_pos c20] at H
        have c20b0 := eq_true c20; have c20b1 : decide (((rdOf ByteArray.empty bc a0_0) ++ (⟨#[32, 114]⟩ : ByteArray)).size + bf.size ≤ 9223372036854775807) = true := decide_eq_true c20
        try have c20b2 : (9223372036854775807 < ((rdOf ByteArray.empty bc a0_0) ++ (⟨#[32, 114]⟩ : ByteArray)).size + bf.size) = False := eq_false (Nat.not_lt.2 c20)
        have c20b3 : (9223372036854775807 < (rdOf ByteArray.empty bc a0_0).size + 2 + bf.size) = False := eq_false (Nat.not_lt.2 (by have h_ := c20; simp only [ByteArray.size_append] at h_; exact h_))
        have H' := Aside0.mk H; clear H; obtain ⟨bV, bW, bX, bY, bZ⟩ := c5e ba; obtain ⟨b0, b1, b2, b3, b4⟩ := z5_ ba
        go_wp2_with (first | ((with_reducible refine gate_callee (f := 16) rfl ?_); refine goesM (some 23) rfl rfl Tryd.func16 (by kernel_rfl) rfl #[.int .i64 a0_1] rfl ?_; (with_reducible refine (spec_l7Digits.calls k a0_1 bf _ A19.out).mono ?_); rintro e dC ⟨rfl, hb⟩; refine ⟨_, rfl, ?_⟩; replace bs := nR bs hb; replace ba := nblk ba hb; replace HB := nbs HB hb; (try clear hb)))
        go_meet
        case rel => exact ⟨_, (((rdOf ByteArray.empty bc a0_0) ++ (⟨#[32, 114]⟩ : ByteArray)) ++ bf), (by first | rfl | (simp; done) | (simp [*]; done)), H', ⟨by first | omega | exact Nat.le_refl _⟩, ⟨nb ba⟩, ⟨nbe HB⟩⟩
       ·rw [if_neg c20] at H
        exact absurd H (by simp)
      ·rw [if_neg c18] at H
       exact absurd H (by simp)
    case rest =>
     clear bv; try clear c1
     try clear p1
     try clear q1
     try clear dc
     try clear c2
     try clear p2
     try clear c3
     try clear c5
     try clear c6
     try clear c6b0
     try clear c7
     try clear c7b0
     try clear p12
     try clear q12
     try clear dd
     try clear c13
     try clear c14
     try clear c15
     try clear c16
     try clear c17
     try clear c17b0
     try clear c17b1
     try clear c18
     try clear c18b0
     try clear c18b1
     try clear c18b2
     try clear c20
     try clear c20b0
     try clear c20b1
     try clear c20b2
     try clear bw
     try clear bx
     try clear bz
     try clear bA
     try clear bB
     try clear bJ
     try clear bK
     try clear bL
     try clear bM
     try clear bN
     try clear bV
     try clear bW
     try clear bX
     try clear bY
     try clear bZ
     try clear bC
     try clear bD
     try clear bE
     try clear bF
     try clear bG
     try clear bO
     try clear bP
     try clear bQ
     try clear bR
     try clear bS
     try clear b0
     try clear b1
     try clear b2
     try clear b3
     try clear b4
     try clear bH
     try clear p129
     try clear q129
     obtain ⟨kq, bh, rfl, HA, b5, ba, HB⟩ := hcut
     cases kq with
     | zero => exact absurd HA.out (by simp [spec_InsText.j0])
     | succ kj7 =>
      have H := HA.out; clear HA; simp only [spec_InsText.j0] at H; have bI := Aside0.mk H; clear H
      go_upto_if 27 with (fail)
      go_cut [4] (fun v4 wc => ∃ (kq : Nat) (bd : ByteArray), v4 = .string bd ∧ Aside0 (spec_InsText.j1 kq bb bd a0_0 a0_1 a0_2 a0_3 a0_4 = some r) ∧ Aside0 (kq ≤ kj7) ∧ Aside0 (wc.heap[bm]? = some (.cells #[.int .i64 a0_0, .int .i64 a0_1, .int .i64 a0_2, .int .i64 a0_3, .int .i64 a0_4] 25 (0, 0))) ∧ Aside0 (Below w.heap.size w wc))
      case first =>
       have H := bI.out; clear bI
       by_cases c24 : (Go.bits .and .i64 bb 2) = 0
       ·rw [if_pos c24] at H
        have c24b0 : ((Go.bits .and .i64 bb 2) == 0) = true := beq_iff_eq.mpr c24; have c24b1 : ((Go.bits .and .i64 bb 2) != 0) = false := bne_eq_false_iff_eq.mpr c24; clear c24; (first | rw [c24b0] | (simp only [i64_w, i32_w]; rw [c24b0]) | skip); have H' := Aside0.mk H; clear H; go_wp2
        go_meet
        case rel => exact ⟨_, (bh), (by first | rfl | (simp; done) | (simp [*]; done)), H', ⟨by have := b5.out; first | omega | exact Nat.le_refl _⟩, ⟨nb ba⟩, ⟨nbe HB⟩⟩
       ·rw [if_neg c24] at H
        have c24b0 : ((Go.bits .and .i64 bb 2) == 0) = false := beq_eq_false_iff_ne.mpr c24; have c24b1 : ((Go.bits .and .i64 bb 2) != 0) = true := bne_iff_ne.mpr c24; (first | rw [c24b0] | (simp only [i64_w, i32_w]; rw [c24b0]) | skip)
        by_cases c25 : bh.size + 2 ≤ 9223372036854775807
        ·rw [if_pos c25] at H
         have c25b0 := eq_true c25; have c25b1 : decide (bh.size + 2 ≤ 9223372036854775807) = true := decide_eq_true c25
         try have c25b2 : (9223372036854775807 < bh.size + 2) = False := eq_false (Nat.not_lt.2 c25)
         replace H := Option.bind_eq_some_iff.mp H; obtain ⟨bj, A260, H⟩ := H; replace H : (if (bh ++ (⟨#[32, 114]⟩ : ByteArray)).size + bj.size ≤ 9223372036854775807 then (spec_InsText.j1 kj7 bb ((bh ++ (⟨#[32, 114]⟩ : ByteArray)) ++ bj) a0_0 a0_1 a0_2 a0_3 a0_4) else (none)) = some r := H; have A26 := Aside0.mk A260; clear A260
         by_cases c27 : (bh ++ (⟨#[32, 114]⟩ : ByteArray)).size + bj.size ≤ 9223372036854775807
         ·rw [if_pos c27] at H
          have c27b0 := eq_true c27; have c27b1 : decide ((bh ++ (⟨#[32, 114]⟩ : ByteArray)).size + bj.size ≤ 9223372036854775807) = true := decide_eq_true c27
          try have c27b2 : (9223372036854775807 < (bh ++ (⟨#[32, 114]⟩ : ByteArray)).size + bj.size) = False := eq_false (Nat.not_lt.2 c27)
          have c27b3 : (9223372036854775807 < bh.size + 2 + bj.size) = False := eq_false (Nat.not_lt.2 (by have h_ := c27; simp only [ByteArray.size_append] at h_; exact h_))
          have H' := Aside0.mk H; clear H; obtain ⟨de, df, dg, dh, di⟩ := c5e ba; obtain ⟨dj, dk, dl, dm, dn⟩ := z5_ ba
          go_wp2_with (first | ((with_reducible refine gate_callee (f := 16) rfl ?_); refine goesM (some 32) rfl rfl Tryd.func16 (by kernel_rfl) rfl #[.int .i64 a0_2] rfl ?_; (with_reducible refine (spec_l7Digits.calls kj7 a0_2 bj _ A26.out).mono ?_); rintro e dD ⟨rfl, hb⟩; refine ⟨_, rfl, ?_⟩; replace ba := nblk ba hb; replace HB := nbs HB hb; (try clear hb)))
          go_meet
          case rel => exact ⟨_, ((bh ++ (⟨#[32, 114]⟩ : ByteArray)) ++ bj), (by first | rfl | (simp; done) | (simp [*]; done)), H', ⟨by have := b5.out; first | omega | exact Nat.le_refl _⟩, ⟨nb ba⟩, ⟨nbe HB⟩⟩
         ·rw [if_neg c27] at H
          exact absurd H (by simp)
        ·rw [if_neg c25] at H
         exact absurd H (by simp)
      case rest =>
       clear bI; try clear c1
       try clear p1
       try clear q1
       try clear dc
       try clear c2
       try clear p2
       try clear c3
       try clear c5
       try clear c6
       try clear c6b0
       try clear c7
       try clear c7b0
       try clear p12
       try clear q12
       try clear dd
       try clear c13
       try clear c14
       try clear c15
       try clear c16
       try clear c17
       try clear c17b0
       try clear c17b1
       try clear c18
       try clear c18b0
       try clear c18b1
       try clear c18b2
       try clear c20
       try clear c20b0
       try clear c20b1
       try clear c20b2
       try clear c24
       try clear c24b0
       try clear c24b1
       try clear c25
       try clear c25b0
       try clear c25b1
       try clear c25b2
       try clear c27
       try clear c27b0
       try clear c27b1
       try clear c27b2
       try clear bw
       try clear bx
       try clear bz
       try clear bA
       try clear bB
       try clear bJ
       try clear bK
       try clear bL
       try clear bM
       try clear bN
       try clear bV
       try clear bW
       try clear bX
       try clear bY
       try clear bZ
       try clear de
       try clear df
       try clear dg
       try clear dh
       try clear di
       try clear bC
       try clear bD
       try clear bE
       try clear bF
       try clear bG
       try clear bO
       try clear bP
       try clear bQ
       try clear bR
       try clear bS
       try clear b0
       try clear b1
       try clear b2
       try clear b3
       try clear b4
       try clear dj
       try clear dk
       try clear dl
       try clear dm
       try clear dn
       try clear bH
       try clear p1
       try clear p12
       try clear p129
       try clear p2
       try clear q1
       try clear q12
       try clear q129
       obtain ⟨kq, bd, rfl, HA, dE, ba, HB⟩ := hcut
       cases kq with
       | zero => exact absurd HA.out (by simp [spec_InsText.j1])
       | succ kj22 =>
        have H := HA.out; clear HA; simp only [spec_InsText.j1] at H
        by_cases c30 : (Go.bits .and .i64 bb 4) = 0
        ·rw [if_pos c30] at H
         have c30b0 : ((Go.bits .and .i64 bb 4) == 0) = true := beq_iff_eq.mpr c30; have c30b1 : ((Go.bits .and .i64 bb 4) != 0) = false := bne_eq_false_iff_eq.mpr c30; clear c30
         by_cases c31 : (Go.bits .and .i64 bb 8) = 0
         ·rw [if_pos c31] at H
          have c31b0 : ((Go.bits .and .i64 bb 8) == 0) = true := beq_iff_eq.mpr c31; have c31b1 : ((Go.bits .and .i64 bb 8) != 0) = false := bne_eq_false_iff_eq.mpr c31; clear c31; obtain rfl := Option.some.inj H; go_wp2
          go_ret
          exact ⟨er_, nbe HB⟩
         ·rw [if_neg c31] at H
          have c31b0 : ((Go.bits .and .i64 bb 8) == 0) = false := beq_eq_false_iff_ne.mpr c31; have c31b1 : ((Go.bits .and .i64 bb 8) != 0) = true := bne_iff_ne.mpr c31
          by_cases c32 : bd.size + 1 ≤ 9223372036854775807
          ·rw [if_pos c32] at H
           have c32b0 := eq_true c32; have c32b1 : decide (bd.size + 1 ≤ 9223372036854775807) = true := decide_eq_true c32
           try have c32b2 : (9223372036854775807 < bd.size + 1) = False := eq_false (Nat.not_lt.2 c32)
           replace H := Option.bind_eq_some_iff.mp H; obtain ⟨bl, A330, H⟩ := H; replace H : (if (bd ++ (⟨#[32]⟩ : ByteArray)).size + bl.size ≤ 9223372036854775807 then (some ((bd ++ (⟨#[32]⟩ : ByteArray)) ++ bl)) else (none)) = some r := H; have A33 := Aside0.mk A330; clear A330
           by_cases c34 : (bd ++ (⟨#[32]⟩ : ByteArray)).size + bl.size ≤ 9223372036854775807
           ·rw [if_pos c34] at H
            have c34b0 := eq_true c34; have c34b1 : decide ((bd ++ (⟨#[32]⟩ : ByteArray)).size + bl.size ≤ 9223372036854775807) = true := decide_eq_true c34
            try have c34b2 : (9223372036854775807 < (bd ++ (⟨#[32]⟩ : ByteArray)).size + bl.size) = False := eq_false (Nat.not_lt.2 c34)
            have c34b3 : (9223372036854775807 < bd.size + 1 + bl.size) = False := eq_false (Nat.not_lt.2 (by have h_ := c34; simp only [ByteArray.size_append] at h_; exact h_))
            obtain rfl := Option.some.inj H; obtain ⟨dF, dG, dH, dI, dJ⟩ := c5e ba; obtain ⟨dK, dL, dM, dN, dO⟩ := z5_ ba
            go_wp2_with (first | ((with_reducible refine gate_callee (f := 16) rfl ?_); refine goesM (some 50) rfl rfl Tryd.func16 (by kernel_rfl) rfl #[.int .i64 a0_4] rfl ?_; (with_reducible refine (spec_l7Digits.calls kj22 a0_4 bl _ A33.out).mono ?_); rintro e dP ⟨rfl, hb⟩; refine ⟨_, rfl, ?_⟩; replace ba := nblk ba hb; replace HB := nbs HB hb; (try clear hb)))
            go_ret
            exact ⟨er_, nbe HB⟩
           ·rw [if_neg c34] at H
            exact absurd H (by simp)
          ·rw [if_neg c32] at H
           exact absurd H (by simp)
        ·rw [if_neg c30] at H
         have c30b0 : ((Go.bits .and .i64 bb 4) == 0) = false := beq_eq_false_iff_ne.mpr c30; have c30b1 : ((Go.bits .and .i64 bb 4) != 0) = true := bne_iff_ne.mpr c30
         by_cases c37 : bd.size + 2 ≤ 9223372036854775807
         ·rw [if_pos c37] at H
          have c37b0 := eq_true c37; have c37b1 : decide (bd.size + 2 ≤ 9223372036854775807) = true := decide_eq_true c37
          try have c37b2 : (9223372036854775807 < bd.size + 2) = False := eq_false (Nat.not_lt.2 c37)
          replace H := Option.bind_eq_some_iff.mp H; obtain ⟨bg, A380, H⟩ := H; replace H : (if (bd ++ (⟨#[32, 114]⟩ : ByteArray)).size + bg.size ≤ 9223372036854775807 then (if (Go.bits .and .i64 bb 8) = 0 then (some ((bd ++ (⟨#[32, 114]⟩ : ByteArray)) ++ bg)) else (if ((bd ++ (⟨#[32, 114]⟩ : ByteArray)) ++ bg).size + 1 ≤ 9223372036854775807 then ((spec_l7Digits.f kj22 a0_4).bind fun bi => (if (((bd ++ (⟨#[32, 114]⟩ : ByteArray)) ++ bg) ++ (⟨#[32]⟩ : ByteArray)).size + bi.size ≤ 9223372036854775807 then (some ((((bd ++ (⟨#[32, 114]⟩ : ByteArray)) ++ bg) ++ (⟨#[32]⟩ : ByteArray)) ++ bi)) else (none))) else (none))) else (none)) = some r := H; have A38 := Aside0.mk A380; clear A380
          by_cases c39 : (bd ++ (⟨#[32, 114]⟩ : ByteArray)).size + bg.size ≤ 9223372036854775807
          ·rw [if_pos c39] at H
           have c39b0 := eq_true c39; have c39b1 : decide ((bd ++ (⟨#[32, 114]⟩ : ByteArray)).size + bg.size ≤ 9223372036854775807) = true := decide_eq_true c39
           try have c39b2 : (9223372036854775807 < (bd ++ (⟨#[32, 114]⟩ : ByteArray)).size + bg.size) = False := eq_false (Nat.not_lt.2 c39)
           have c39b3 : (9223372036854775807 < bd.size + 2 + bg.size) = False := eq_false (Nat.not_lt.2 (by have h_ := c39; simp only [ByteArray.size_append] at h_; exact h_))
           by_cases c40 : (Go.bits .and .i64 bb 8) = 0
           ·rw [if_pos c40] at H
            have c40b0 : ((Go.bits .and .i64 bb 8) == 0) = true := beq_iff_eq.mpr c40; have c40b1 : ((Go.bits .and .i64 bb 8) != 0) = false := bne_eq_false_iff_eq.mpr c40; clear c40; obtain rfl := Option.some.inj H; obtain ⟨dQ, dR, dS, dT, dU⟩ := c5e ba; obtain ⟨dV, dW, dX, dY, dZ⟩ := z5_ ba
            go_wp2_with (first | ((with_reducible refine gate_callee (f := 16) rfl ?_); refine goesM (some 41) rfl rfl Tryd.func16 (by kernel_rfl) rfl #[.int .i64 a0_3] rfl ?_; (with_reducible refine (spec_l7Digits.calls kj22 a0_3 bg _ A38.out).mono ?_); rintro e d0 ⟨rfl, hb⟩; refine ⟨_, rfl, ?_⟩; replace ba := nblk ba hb; replace HB := nbs HB hb; (try clear hb)))
            go_ret
            exact ⟨er_, nbe HB⟩
           ·rw [if_neg c40] at H
            have c40b0 : ((Go.bits .and .i64 bb 8) == 0) = false := beq_eq_false_iff_ne.mpr c40; have c40b1 : ((Go.bits .and .i64 bb 8) != 0) = true := bne_iff_ne.mpr c40
            by_cases c43 : ((bd ++ (⟨#[32, 114]⟩ : ByteArray)) ++ bg).size + 1 ≤ 9223372036854775807
            ·rw [if_pos c43] at H
             have c43b0 := eq_true c43; have c43b1 : decide (((bd ++ (⟨#[32, 114]⟩ : ByteArray)) ++ bg).size + 1 ≤ 9223372036854775807) = true := decide_eq_true c43
             try have c43b2 : (9223372036854775807 < ((bd ++ (⟨#[32, 114]⟩ : ByteArray)) ++ bg).size + 1) = False := eq_false (Nat.not_lt.2 c43)
             have c43b3 : (9223372036854775807 < bd.size + 2 + bg.size + 1) = False := eq_false (Nat.not_lt.2 (by have h_ := c43; simp only [ByteArray.size_append] at h_; exact h_))
             replace H := Option.bind_eq_some_iff.mp H; obtain ⟨bi, A440, H⟩ := H; replace H : (if (((bd ++ (⟨#[32, 114]⟩ : ByteArray)) ++ bg) ++ (⟨#[32]⟩ : ByteArray)).size + bi.size ≤ 9223372036854775807 then (some ((((bd ++ (⟨#[32, 114]⟩ : ByteArray)) ++ bg) ++ (⟨#[32]⟩ : ByteArray)) ++ bi)) else (none)) = some r := H; have A44 := Aside0.mk A440; clear A440
             by_cases c45 : (((bd ++ (⟨#[32, 114]⟩ : ByteArray)) ++ bg) ++ (⟨#[32]⟩ : ByteArray)).size + bi.size ≤ 9223372036854775807
             ·rw [if_pos c45] at H
              have c45b0 := eq_true c45; have c45b1 : decide ((((bd ++ (⟨#[32, 114]⟩ : ByteArray)) ++ bg) ++ (⟨#[32]⟩ : ByteArray)).size + bi.size ≤ 9223372036854775807) = true := decide_eq_true c45
              try have c45b2 : (9223372036854775807 < (((bd ++ (⟨#[32, 114]⟩ : ByteArray)) ++ bg) ++ (⟨#[32]⟩ : ByteArray)).size + bi.size) = False := eq_false (Nat.not_lt.2 c45)
              have c45b3 : (9223372036854775807 < bd.size + 2 + bg.size + 1 + bi.size) = False := eq_false (Nat.not_lt.2 (by have h_ := c45; simp only [ByteArray.size_append] at h_; exact h_))
              obtain rfl := Option.some.inj H; obtain ⟨d1, d2, d3, d4, d5⟩ := c5e ba; obtain ⟨d6, d7, d8, d9, ea⟩ := z5_ ba
              go_wp2_with (first | ((with_reducible refine gate_callee (f := 16) rfl ?_); refine goesM (some 41) rfl rfl Tryd.func16 (by kernel_rfl) rfl #[.int .i64 a0_3] rfl ?_; (with_reducible refine (spec_l7Digits.calls kj22 a0_3 bg _ A38.out).mono ?_); rintro e eb ⟨rfl, hb⟩; refine ⟨_, rfl, ?_⟩; replace ba := nblk ba hb; replace HB := nbs HB hb; (try clear hb); obtain ⟨ec, ed, ee, ef, eg⟩ := c5e ba; obtain ⟨eh, ei, ej, ek, el⟩ := z5_ ba) | ((with_reducible refine gate_callee (f := 16) rfl ?_); refine goesM (some 50) rfl rfl Tryd.func16 (by kernel_rfl) rfl #[.int .i64 a0_4] rfl ?_; (with_reducible refine (spec_l7Digits.calls kj22 a0_4 bi _ A44.out).mono ?_); rintro e em ⟨rfl, hb⟩; refine ⟨_, rfl, ?_⟩; replace ba := nblk ba hb; replace HB := nbs HB hb; (try clear hb)))
              go_ret
              exact ⟨er_, nbe HB⟩
             ·rw [if_neg c45] at H
              exact absurd H (by simp)
            ·rw [if_neg c43] at H
             exact absurd H (by simp)
          ·rw [if_neg c39] at H
           exact absurd H (by simp)
         ·rw [if_neg c37] at H
          exact absurd H (by simp)
   ·rw [if_neg c7] at H
    exact absurd H (by simp)
  ·rw [if_neg c6] at H
   exact absurd H (by simp)
 ·replace c3 := Bool.eq_false_iff.mpr c3
  subst c3; have H1 : (some (⟨#[]⟩ : ByteArray)) = some r := by rw [if_neg (show ¬ (false = true) by decide)] at H; exact H
  clear H; have H := H1; clear H1; obtain rfl := Option.some.inj H
  go_enter Tryd.func5, Tryd.ntmps5
  go_wp2_with (first | ((with_reducible refine gate_dst (N := 1) rfl ?_); refine bxe 1 #[.int .i64 a0_0, .int .i64 a0_1, .int .i64 a0_2, .int .i64 a0_3, .int .i64 a0_4] 25 ?_; intro bm hg en hbox hb; have ba := hbox; have b8 := nge HB hg; have b9 := nge HB hg; replace HB := nbs HB hb; clear hb hbox hg; obtain ⟨eo, ep, er, es, et⟩ := c5e ba; obtain ⟨eu, ev, ew, ex, ey⟩ := z5_ ba) | ((with_reducible refine gate_callee (f := 13) rfl ?_); refine goesM (some 6) rfl rfl Tryd.func13 (by kernel_rfl) rfl #[.agg #[.int .i64 a0_0, .int .i64 a0_1, .int .i64 a0_2, .int .i64 a0_3, .int .i64 a0_4]] rfl ?_; (with_reducible refine (spec_InsOk.calls a0_0 a0_1 a0_2 a0_3 a0_4 false _ A2.out).mono ?_); rintro e ez ⟨rfl, hb⟩; refine ⟨_, rfl, ?_⟩; replace ba := nblk ba hb; replace HB := nbs HB hb; (try clear hb)))
  go_ret
  exact ⟨er_, nbe HB⟩

/-! ### laws_toIns: function 6 -/
def laws_toIns.f (a0_0 : Int) (a0_1 : Int) (a0_2 : Int) (a0_3 : Int) (a0_4 : Int) : Option (Int × Int × Int × Int × Int) := some (a0_0, a0_1, a0_2, a0_3, a0_4)
set_option maxHeartbeats 8000000 in
set_option maxRecDepth 100000 in
theorem laws_toIns.calls (a0_0 : Int) (a0_1 : Int) (a0_2 : Int) (a0_3 : Int) (a0_4 : Int) (r1 : Int) (r2 : Int) (r3 : Int) (r4 : Int) (r5 : Int) (w : World) (h : laws_toIns.f a0_0 a0_1 a0_2 a0_3 a0_4 = some (r1, r2, r3, r4, r5)) :
  Calls Tryd.prog 6 #[.agg #[.int .i64 a0_0, .int .i64 a0_1, .int .i64 a0_2, .int .i64 a0_3, .int .i64 a0_4]] w fun e w' => e = .returned (.agg #[.int .i64 r1, .int .i64 r2, .int .i64 r3, .int .i64 r4, .int .i64 r5]) ∧ Below w.heap.size w w' := by
 have hu23 := Tryd.underlying23; have hu25 := Tryd.underlying25; have HB := Aside0.mk (Below.refl w.heap.size w); have H : (some (a0_0, a0_1, a0_2, a0_3, a0_4)) = some (r1, r2, r3, r4, r5) := h; clear h; simp only [Option.some.injEq, Prod.mk.injEq] at H; obtain ⟨rfl, rfl, rfl, rfl, rfl⟩ := H
 go_enter Tryd.func6, Tryd.ntmps6
 go_wp2_with (first | ((with_reducible refine gate_dst (N := 1) rfl ?_); refine bxe 1 #[.int .i64 a0_0, .int .i64 a0_1, .int .i64 a0_2, .int .i64 a0_3, .int .i64 a0_4] 23 ?_; intro eA hg w2 hbox hb; have bk := hbox; have eB := nge HB hg; have eC := nge HB hg; replace HB := nbs HB hb; clear hb hbox hg) | ((with_reducible refine gate_dst (N := 2) rfl ?_); refine bxe 2 #[.int .i64 0, .int .i64 0, .int .i64 0, .int .i64 0, .int .i64 0] 25 ?_; intro dp hg w3 hbox hb; have bn := hbox; have eD := nge HB hg; have eE := nge HB hg; have dq := nlt bk hg; have dr := ngt bk hg; replace bk := nblk bk hb; replace HB := nbs HB hb; clear hb hbox hg) | ((with_reducible refine gate_dst (N := 3) rfl ?_); refine bxe 3 #[.int .i64 0, .int .i64 0, .int .i64 0, .int .i64 0, .int .i64 0] 25 ?_; intro eF hg w4 hbox hb; have b6 := hbox; have eG := nge HB hg; have eH := nge HB hg; have dt := nlt bk hg; have du := ngt bk hg; have b7 := nlt bn hg; have dv := ngt bn hg; replace bk := nblk bk hb; replace bn := nblk bn hb; replace HB := nbs HB hb; clear hb hbox hg; have eI := dq.out; have eJ := dr.out; have eK := dt.out; have eL := du.out; obtain ⟨eM, eN, eO, eP, eQ⟩ := c5e bk; obtain ⟨eR, eS, eT, eU, eV⟩ := z5_ bk; have eW := dv.out; have eX := b7.out; obtain ⟨eY, eZ, e0, e1, e2⟩ := c5e b6; obtain ⟨e3, e4, e5, e6, e7⟩ := z5_ b6; obtain ⟨bw, bx, bz, bA, bB⟩ := c5e bn; obtain ⟨bC, bD, bE, bF, bG⟩ := z5_ bn))
 refine bodyPost_ret (results_cell_row rfl _ _ dp 25 #[.int .i64 a0_0, .int .i64 a0_1, .int .i64 a0_2, .int .i64 a0_3, .int .i64 a0_4] (0, 0) _ rfl (p5 bn (k5_ b7.out (nb bn))) Tryd.underlying25 rfl (by kernel_rfl)) rfl ?_; exact ⟨er_, nbe HB⟩

end Go.Proofs.YteamcnoabglobaaDoor.PFnExactInsText
