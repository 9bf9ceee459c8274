-- Written by a program of this session (wip/patch.py turns a copy of the kit's print): the functions that the law reaches, and their walks.
import Derived.Test.YteamcnoabglobaaDoorPFnExactCodeTextx0
import Derived.Test.YteamcnoabglobaaDoorPFnExactCodeTextx1
import Derived.Test.YteamcnoabglobaaDoorCFnExactCodeText
namespace Go.Proofs.YteamcnoabglobaaDoor.PFnExactCodeText
open Go.RowKit Go.Proofs.YteamcnoabglobaaDoorW.PrintWords Go.Proofs.YteamcnoabglobaaDoorW.PrintLast Go.Proofs.YteamcnoabglobaaDoorW.PrintMore Go.Proofs.YteamcnoabglobaaDoorW.Mine
attribute [local go_sem] max2_int min2_int max_two min_two max_three min_three max_four min_four   -- for this text's walks alone
set_option linter.unusedVariables false
set_option linter.unusedSimpArgs false

/-! ### spec_InsText: function 5 -/
mutual
def spec_InsText.j0 : Nat → Int → ByteArray → Int → Int → Int → Int → Int → Option (ByteArray)
 | 0, _, _, _, _, _, _, _ => none
 | k + 1, x3, x4, bH, bI, bB, bC, bz => if (Go.bits .and .i64 x3 2) = 0 then (spec_InsText.j1 k x3 x4 bH bI bB bC bz) else (if x4.size + 2 ≤ 9223372036854775807 then ((spec_l7Digits.f k bB).bind fun bm => (if (x4 ++ (⟨#[32, 114]⟩ : ByteArray)).size + bm.size ≤ 9223372036854775807 then (spec_InsText.j1 k x3 ((x4 ++ (⟨#[32, 114]⟩ : ByteArray)) ++ bm) bH bI bB bC bz) else (none))) else (none))
def spec_InsText.j1 : Nat → Int → ByteArray → Int → Int → Int → Int → Int → Option (ByteArray)
 | 0, _, _, _, _, _, _, _ => none
 | k + 1, x3, x4, bH, bI, bB, bC, bz => if (Go.bits .and .i64 x3 4) = 0 then (if (Go.bits .and .i64 x3 8) = 0 then (some x4) else (if x4.size + 1 ≤ 9223372036854775807 then ((spec_l7Digits.f k bz).bind fun bo => (if (x4 ++ (⟨#[32]⟩ : ByteArray)).size + bo.size ≤ 9223372036854775807 then (some ((x4 ++ (⟨#[32]⟩ : ByteArray)) ++ bo)) else (none))) else (none))) else (if x4.size + 2 ≤ 9223372036854775807 then ((spec_l7Digits.f k bC).bind fun bi => (if (x4 ++ (⟨#[32, 114]⟩ : ByteArray)).size + bi.size ≤ 9223372036854775807 then (if (Go.bits .and .i64 x3 8) = 0 then (some ((x4 ++ (⟨#[32, 114]⟩ : ByteArray)) ++ bi)) else (if ((x4 ++ (⟨#[32, 114]⟩ : ByteArray)) ++ bi).size + 1 ≤ 9223372036854775807 then ((spec_l7Digits.f k bz).bind fun bl => (if (((x4 ++ (⟨#[32, 114]⟩ : ByteArray)) ++ bi) ++ (⟨#[32]⟩ : ByteArray)).size + bl.size ≤ 9223372036854775807 then (some ((((x4 ++ (⟨#[32, 114]⟩ : ByteArray)) ++ bi) ++ (⟨#[32]⟩ : ByteArray)) ++ bl)) else (none))) else (none))) else (none))) else (none))
end
def spec_InsText.f (k : Nat) (a0_0 : Int) (a0_1 : Int) (a0_2 : Int) (a0_3 : Int) (a0_4 : Int) : Option (ByteArray) := (spec_InsOk.f a0_0 a0_1 a0_2 a0_3 a0_4).bind fun bw => (if bw = true then ((spec_l6Has.f a0_0).bind fun bc => ((spec_l7Names.f).bind fun bd => (if 0 ≤ a0_0 then (if a0_0 < (bd.length : Int) then (if (Go.bits .and .i64 bc 1) = 0 then (spec_InsText.j0 k bc (rdOf ByteArray.empty bd a0_0) a0_0 a0_1 a0_2 a0_3 a0_4) else (if (rdOf ByteArray.empty bd a0_0).size + 2 ≤ 9223372036854775807 then ((spec_l7Digits.f k a0_1).bind fun bh => (if ((rdOf ByteArray.empty bd a0_0) ++ (⟨#[32, 114]⟩ : ByteArray)).size + bh.size ≤ 9223372036854775807 then (spec_InsText.j0 k bc (((rdOf ByteArray.empty bd a0_0) ++ (⟨#[32, 114]⟩ : ByteArray)) ++ bh) a0_0 a0_1 a0_2 a0_3 a0_4) else (none))) else (none))) else (none)) else (none)))) else (some (⟨#[]⟩ : ByteArray)))
theorem spec_InsText.mono_l : ∀ k, (∀ y0 y1 y2 y3 y4 y5 y6, LeO (spec_InsText.j0 k y0 y1 y2 y3 y4 y5 y6) (spec_InsText.j0 (k + 1) y0 y1 y2 y3 y4 y5 y6)) ∧ (∀ y0 y1 y2 y3 y4 y5 y6, LeO (spec_InsText.j1 k y0 y1 y2 y3 y4 y5 y6) (spec_InsText.j1 (k + 1) y0 y1 y2 y3 y4 y5 y6))
 | 0 => ⟨fun _ _ _ _ _ _ _ r h => by simp [spec_InsText.j0] at h, fun _ _ _ _ _ _ _ r h => by simp [spec_InsText.j1] at h⟩
 | k + 1 => by
  obtain ⟨ih0, ih1⟩ := spec_InsText.mono_l k; refine ⟨?_, ?_⟩
  ·intro y0 y1 y2 y3 y4 y5 y6
   unfold spec_InsText.j0
   repeat' first
   | (with_reducible exact ih0 _ _ _ _ _ _ _)
   | (with_reducible exact ih1 _ _ _ _ _ _ _)
   | (with_reducible exact spec_l7Digits.mono _ _)
   | (with_reducible exact LeO.refl _)
   | (with_reducible exact LeO.none _)
   | (with_reducible refine LeO.ite ?_ ?_)
   | (with_reducible refine LeO.bind ?_ (fun _ => ?_))
   | exact ih0 _ _ _ _ _ _ _
   | exact ih1 _ _ _ _ _ _ _
   | exact spec_l7Digits.mono _ _
   | exact LeO.none _
   | refine LeO.ite ?_ ?_
   | refine LeO.bind ?_ (fun _ => ?_)
  ·intro y0 y1 y2 y3 y4 y5 y6
   unfold spec_InsText.j1
   repeat' first
   | (with_reducible exact ih0 _ _ _ _ _ _ _)
   | (with_reducible exact ih1 _ _ _ _ _ _ _)
   | (with_reducible exact spec_l7Digits.mono _ _)
   | (with_reducible exact LeO.refl _)
   | (with_reducible exact LeO.none _)
   | (with_reducible refine LeO.ite ?_ ?_)
   | (with_reducible refine LeO.bind ?_ (fun _ => ?_))
   | exact ih0 _ _ _ _ _ _ _
   | exact ih1 _ _ _ _ _ _ _
   | exact spec_l7Digits.mono _ _
   | exact LeO.none _
   | refine LeO.ite ?_ ?_
   | refine LeO.bind ?_ (fun _ => ?_)
theorem spec_InsText.mono : ∀ a0 a1 a2 a3 a4 k, LeO (spec_InsText.f k a0 a1 a2 a3 a4) (spec_InsText.f (k + 1) a0 a1 a2 a3 a4) := by
 intro a0 a1 a2 a3 a4 k; obtain ⟨ih0, ih1⟩ := spec_InsText.mono_l k
 unfold spec_InsText.f
 repeat' first
   | (with_reducible exact ih0 _ _ _ _ _ _ _)
   | (with_reducible exact ih1 _ _ _ _ _ _ _)
   | (with_reducible exact spec_l7Digits.mono _ _)
   | (with_reducible exact LeO.refl _)
   | (with_reducible exact LeO.none _)
   | (with_reducible refine LeO.ite ?_ ?_)
   | (with_reducible refine LeO.bind ?_ (fun _ => ?_))
   | exact ih0 _ _ _ _ _ _ _
   | exact ih1 _ _ _ _ _ _ _
   | exact spec_l7Digits.mono _ _
   | exact LeO.none _
   | refine LeO.ite ?_ ?_
   | refine LeO.bind ?_ (fun _ => ?_)
set_option maxHeartbeats 8000000 in
set_option maxRecDepth 100000 in
theorem spec_InsText.calls (k : Nat) (a0_0 : Int) (a0_1 : Int) (a0_2 : Int) (a0_3 : Int) (a0_4 : Int) (r : ByteArray) (w : World) (h : spec_InsText.f k a0_0 a0_1 a0_2 a0_3 a0_4 = some r) :
  Calls Tryd.prog 5 #[.agg #[.int .i64 a0_0, .int .i64 a0_1, .int .i64 a0_2, .int .i64 a0_3, .int .i64 a0_4]] w fun e w' => e = .returned (.string r) ∧ Below w.heap.size w w' := by
 have hu25 := Tryd.underlying25; have HB := Aside0.mk (Below.refl w.heap.size w); have H : ((spec_InsOk.f a0_0 a0_1 a0_2 a0_3 a0_4).bind fun bw => (if bw = true then ((spec_l6Has.f a0_0).bind fun bc => ((spec_l7Names.f).bind fun bd => (if 0 ≤ a0_0 then (if a0_0 < (bd.length : Int) then (if (Go.bits .and .i64 bc 1) = 0 then (spec_InsText.j0 k bc (rdOf ByteArray.empty bd a0_0) a0_0 a0_1 a0_2 a0_3 a0_4) else (if (rdOf ByteArray.empty bd a0_0).size + 2 ≤ 9223372036854775807 then ((spec_l7Digits.f k a0_1).bind fun bh => (if ((rdOf ByteArray.empty bd a0_0) ++ (⟨#[32, 114]⟩ : ByteArray)).size + bh.size ≤ 9223372036854775807 then (spec_InsText.j0 k bc (((rdOf ByteArray.empty bd a0_0) ++ (⟨#[32, 114]⟩ : ByteArray)) ++ bh) a0_0 a0_1 a0_2 a0_3 a0_4) else (none))) else (none))) else (none)) else (none)))) else (some (⟨#[]⟩ : ByteArray)))) = some r := h; clear h; replace H := Option.bind_eq_some_iff.mp H; obtain ⟨bw, A20, H⟩ := H; replace H : (if bw = true then ((spec_l6Has.f a0_0).bind fun bc => ((spec_l7Names.f).bind fun bd => (if 0 ≤ a0_0 then (if a0_0 < (bd.length : Int) then (if (Go.bits .and .i64 bc 1) = 0 then (spec_InsText.j0 k bc (rdOf ByteArray.empty bd a0_0) a0_0 a0_1 a0_2 a0_3 a0_4) else (if (rdOf ByteArray.empty bd a0_0).size + 2 ≤ 9223372036854775807 then ((spec_l7Digits.f k a0_1).bind fun bh => (if ((rdOf ByteArray.empty bd a0_0) ++ (⟨#[32, 114]⟩ : ByteArray)).size + bh.size ≤ 9223372036854775807 then (spec_InsText.j0 k bc (((rdOf ByteArray.empty bd a0_0) ++ (⟨#[32, 114]⟩ : ByteArray)) ++ bh) a0_0 a0_1 a0_2 a0_3 a0_4) else (none))) else (none))) else (none)) else (none)))) else (some (⟨#[]⟩ : ByteArray))) = some r := H; have A2 := Aside0.mk A20; clear A20
 by_cases c3 : bw = true
 ·subst c3
  have H1 : ((spec_l6Has.f a0_0).bind fun bc => ((spec_l7Names.f).bind fun bd => (if 0 ≤ a0_0 then (if a0_0 < (bd.length : Int) then (if (Go.bits .and .i64 bc 1) = 0 then (spec_InsText.j0 k bc (rdOf ByteArray.empty bd a0_0) a0_0 a0_1 a0_2 a0_3 a0_4) else (if (rdOf ByteArray.empty bd a0_0).size + 2 ≤ 9223372036854775807 then ((spec_l7Digits.f k a0_1).bind fun bh => (if ((rdOf ByteArray.empty bd a0_0) ++ (⟨#[32, 114]⟩ : ByteArray)).size + bh.size ≤ 9223372036854775807 then (spec_InsText.j0 k bc (((rdOf ByteArray.empty bd a0_0) ++ (⟨#[32, 114]⟩ : ByteArray)) ++ bh) a0_0 a0_1 a0_2 a0_3 a0_4) else (none))) else (none))) else (none)) else (none)))) = some r := by rw [if_pos rfl] at H; exact H
  clear H; have H := H1; clear H1; replace H := Option.bind_eq_some_iff.mp H; obtain ⟨bc, A40, H⟩ := H; replace H : ((spec_l7Names.f).bind fun bd => (if 0 ≤ a0_0 then (if a0_0 < (bd.length : Int) then (if (Go.bits .and .i64 bc 1) = 0 then (spec_InsText.j0 k bc (rdOf ByteArray.empty bd a0_0) a0_0 a0_1 a0_2 a0_3 a0_4) else (if (rdOf ByteArray.empty bd a0_0).size + 2 ≤ 9223372036854775807 then ((spec_l7Digits.f k a0_1).bind fun bh => (if ((rdOf ByteArray.empty bd a0_0) ++ (⟨#[32, 114]⟩ : ByteArray)).size + bh.size ≤ 9223372036854775807 then (spec_InsText.j0 k bc (((rdOf ByteArray.empty bd a0_0) ++ (⟨#[32, 114]⟩ : ByteArray)) ++ bh) a0_0 a0_1 a0_2 a0_3 a0_4) else (none))) else (none))) else (none)) else (none))) = some r := H; have A4 := Aside0.mk A40; clear A40; replace H := Option.bind_eq_some_iff.mp H; obtain ⟨bd, A50, H⟩ := H; replace H : (if 0 ≤ a0_0 then (if a0_0 < (bd.length : Int) then (if (Go.bits .and .i64 bc 1) = 0 then (spec_InsText.j0 k bc (rdOf ByteArray.empty bd a0_0) a0_0 a0_1 a0_2 a0_3 a0_4) else (if (rdOf ByteArray.empty bd a0_0).size + 2 ≤ 9223372036854775807 then ((spec_l7Digits.f k a0_1).bind fun bh => (if ((rdOf ByteArray.empty bd a0_0) ++ (⟨#[32, 114]⟩ : ByteArray)).size + bh.size ≤ 9223372036854775807 then (spec_InsText.j0 k bc (((rdOf ByteArray.empty bd a0_0) ++ (⟨#[32, 114]⟩ : ByteArray)) ++ bh) a0_0 a0_1 a0_2 a0_3 a0_4) else (none))) else (none))) else (none)) else (none)) = some r := H; have A5 := Aside0.mk A50; clear A50
  by_cases c6 : 0 ≤ a0_0
  ·rw [if_pos c6] at H
   have c6b0 : decide (0 ≤ a0_0) = true := decide_eq_true c6; clear c6
   by_cases c7 : a0_0 < (bd.length : Int)
   ·rw [if_pos c7] at H
    have c7b0 : decide (a0_0 < (bd.length : Int)) = true := decide_eq_true c7; clear c7; have bJ := Aside0.mk H; clear H
    go_enter Tryd.func5, Tryd.ntmps5
    try go_wp2_with (first | ((with_reducible refine gate_dst (N := 1) rfl ?_); refine bxe 1 #[.int .i64 a0_0, .int .i64 a0_1, .int .i64 a0_2, .int .i64 a0_3, .int .i64 a0_4] 25 ?_; intro bp hg w9 hbox hb; have bb := hbox; have dt := nge HB hg; have du := nge HB hg; replace HB := nbs HB hb; clear hb hbox hg; obtain ⟨bK, bL, bM, bN, bO⟩ := c5e bb; obtain ⟨bP, bQ, bR, bS, bT⟩ := z5_ bb) | ((with_reducible refine gate_callee (f := 13) rfl ?_); refine goesM (some 6) rfl rfl Tryd.func13 (by kernel_rfl) rfl #[.agg #[.int .i64 a0_0, .int .i64 a0_1, .int .i64 a0_2, .int .i64 a0_3, .int .i64 a0_4]] rfl ?_; (with_reducible refine (spec_InsOk.calls a0_0 a0_1 a0_2 a0_3 a0_4 true _ A2.out).mono ?_); rintro e dv ⟨rfl, hb⟩; refine ⟨_, rfl, ?_⟩; replace bb := nblk bb hb; replace HB := nbs HB hb; (try clear hb); obtain ⟨b2, b3, b4, b5, b6⟩ := c5e bb; obtain ⟨b7, b8, b9, da, db⟩ := z5_ bb) | ((with_reducible refine gate_callee (f := 14) rfl ?_); refine goesM (some 10) rfl rfl Tryd.func14 (by kernel_rfl) rfl #[.int .i64 a0_0] rfl ?_; (with_reducible refine (spec_l6Has.calls a0_0 bc _ A4.out).mono ?_); rintro e dw ⟨rfl, hb⟩; refine ⟨_, rfl, ?_⟩; replace bb := nblk bb hb; replace HB := nbs HB hb; (try clear hb)))
    replace bb := Aside0.mk (blk_drew bb.out); replace HB := Aside0.mk (below_drew1 HB.out); refine start_ (n := 6) (S := fun w' => w'.cell? ⟨bp, 0, none⟩ = some (.int .i64 a0_0) ∧ w'.cell? ⟨bp, 1, none⟩ = some (.int .i64 a0_1) ∧ w'.cell? ⟨bp, 2, none⟩ = some (.int .i64 a0_2) ∧ w'.cell? ⟨bp, 3, none⟩ = some (.int .i64 a0_3) ∧ w'.cell? ⟨bp, 4, none⟩ = some (.int .i64 a0_4)) (ds := []) #[false, false, false, false, false, false] (by kernel_rfl) rfl rfl ⟨(blk_cell bb.out 0).trans rfl, (blk_cell bb.out 1).trans rfl, (blk_cell bb.out 2).trans rfl, (blk_cell bb.out 3).trans rfl, (blk_cell bb.out 4).trans rfl⟩ (fun hHeld => ?_); generalize dw.drew = dR at bb HB hHeld ⊢; refine rPk 1 12 #[false, true, false, false, false, false] ?_; refine rTk hHeld 2 13 #[false, true, true, false, false, false] ?_; refine one_ (i := 0) (N := some 11) #[true, true, true, false, false, false] rfl rfl (by kernel_rfl) (by decide) (fun K hK => ?_); refine goesR Tryd.func15 (by kernel_rfl) rfl #[] (by rfl) rfl rfl ?_; (with_reducible refine (spec_l7Names.calls  bd _ A5.out).mono ?_); rintro e dS ⟨dT, rfl, dc, hb⟩; refine ⟨_, rfl, ?_⟩; have bD := Aside0.mk (Kd.R_lower dc (bsz HB)); replace bb := nblk bb hb; replace HB := nbs HB hb; (try clear hb); (try clear dc); obtain ⟨dU, dV, dd⟩ := Kd.R_slice bD.out; (first | subst dd | (injection dd with f1_ f2_ f3_; have f4_ := f1_.symm; have f5_ := f3_.symm; clear f1_ f2_ f3_; subst f4_; subst f5_)); have p129 : 0 ≤ (a0_0 : Int) := of_decide_eq_true (by first | (with_reducible assumption) | assumption); have q129 : a0_0 < (bd.length : Int) := of_decide_eq_true (by first | (with_reducible assumption) | assumption); obtain ⟨dx, e129, bU⟩ := Kd.at_string (Kd.R_reads' bD.out).2.2 a0_0 p129 q129
    cases e129
    replace p129 := eq_true p129; replace q129 := eq_true q129; refine hK.out _ _ ⟨(blk_cell bb.out 0).trans rfl, (blk_cell bb.out 1).trans rfl, (blk_cell bb.out 2).trans rfl, (blk_cell bb.out 3).trans rfl, (blk_cell bb.out 4).trans rfl⟩ (fun hHeld => ?_); clear hK K; refine norm_ (a' := ?_) ?_ ?_; rotate_left
    ·show Act.put _ (some 11) _ = _
     simp only [Act.put, List.setIfInBounds_toArray, List.set_cons_zero, List.set_cons_succ, i64_w, i32_w]; rfl
    refine rPk 3 14 #[true, true, true, true, false, false] ?_; refine one_ (i := 4) (N := some 15) #[true, true, true, true, true, false] rfl rfl (by kernel_rfl) (by decide) (fun K hK => ?_); refine ev_step (v := .string (rdOf ByteArray.empty bd a0_0)) (w1 := dS) ?hw ?hrun ?_; (case hw => rfl); (case hrun => go_simp; try rfl); refine hK.out _ _ ⟨(blk_cell bb.out 0).trans rfl, (blk_cell bb.out 1).trans rfl, (blk_cell bb.out 2).trans rfl, (blk_cell bb.out 3).trans rfl, (blk_cell bb.out 4).trans rfl⟩ (fun hHeld => ?_); clear hK K; refine norm_ (a' := ?_) ?_ ?_; rotate_left
    ·show Act.put _ (some 15) _ = _
     simp only [Act.put, List.setIfInBounds_toArray, List.set_cons_zero, List.set_cons_succ, i64_w, i32_w]; rfl
    refine rPk 5 4 #[true, true, true, true, true, true] ?_; refine done_ (by kernel_rfl) ?_
    go_upto_if 18 with (fail)
    go_cut [4] (fun v4 wc => ∃ (kq : Nat) (bk : ByteArray), v4 = .string bk ∧ Aside0 (spec_InsText.j0 kq bc bk a0_0 a0_1 a0_2 a0_3 a0_4 = some r) ∧ Aside0 (kq ≤ k) ∧ Aside0 (wc.heap[bp]? = some (.cells #[.int .i64 a0_0, .int .i64 a0_1, .int .i64 a0_2, .int .i64 a0_3, .int .i64 a0_4] 25 (0, 0))) ∧ Aside0 (Below w.heap.size w wc))
    case first =>
     have H := bJ.out; clear bJ
     by_cases c17 : (Go.bits .and .i64 bc 1) = 0
     ·rw [if_pos c17] at H
      have c17b0 : ((Go.bits .and .i64 bc 1) == 0) = true := beq_iff_eq.mpr c17; have c17b1 : ((Go.bits .and .i64 bc 1) != 0) = false := bne_eq_false_iff_eq.mpr c17; clear c17; (first | rw [c17b0] | (simp only [i64_w, i32_w]; rw [c17b0]) | skip); have H' := Aside0.mk H; clear H; go_wp2
      go_meet
      case rel => exact ⟨_, (rdOf ByteArray.empty bd a0_0), (by first | rfl | (simp; done) | (simp [*]; done)), H', ⟨by first | omega | exact Nat.le_refl _⟩, ⟨nb bb⟩, ⟨nbe HB⟩⟩
     ·rw [if_neg c17] at H
      have c17b0 : ((Go.bits .and .i64 bc 1) == 0) = false := beq_eq_false_iff_ne.mpr c17; have c17b1 : ((Go.bits .and .i64 bc 1) != 0) = true := bne_iff_ne.mpr c17; (first | rw [c17b0] | (simp only [i64_w, i32_w]; rw [c17b0]) | skip)
      by_cases c18 : (rdOf ByteArray.empty bd a0_0).size + 2 ≤ 9223372036854775807
      ·rw [if_pos c18] at H
       have c18b0 := eq_true c18; have c18b1 : decide ((rdOf ByteArray.empty bd a0_0).size + 2 ≤ 9223372036854775807) = true := decide_eq_true c18
       try have c18b2 : (9223372036854775807 < (rdOf ByteArray.empty bd a0_0).size + 2) = False := eq_false (Nat.not_lt.2 c18)
       replace H := Option.bind_eq_some_iff.mp H; obtain ⟨bh, A190, H⟩ := H; replace H : (if ((rdOf ByteArray.empty bd a0_0) ++ (⟨#[32, 114]⟩ : ByteArray)).size + bh.size ≤ 9223372036854775807 then (spec_InsText.j0 k bc (((rdOf ByteArray.empty bd a0_0) ++ (⟨#[32, 114]⟩ : ByteArray)) ++ bh) a0_0 a0_1 a0_2 a0_3 a0_4) else (none)) = some r := H; have A19 := Aside0.mk A190; clear A190
       by_cases c20 : ((rdOf ByteArray.empty bd a0_0) ++ (⟨#[32, 114]⟩ : ByteArray)).size + bh.size ≤ 9223372036854775807
       ·rw [if_pos c20] at H
        have c20b0 := eq_true c20; have c20b1 : decide (((rdOf ByteArray.empty bd a0_0) ++ (⟨#[32, 114]⟩ : ByteArray)).size + bh.size ≤ 9223372036854775807) = true := decide_eq_true c20
        try have c20b2 : (9223372036854775807 < ((rdOf ByteArray.empty bd a0_0) ++ (⟨#[32, 114]⟩ : ByteArray)).size + bh.size) = False := eq_false (Nat.not_lt.2 c20)
        have c20b3 : (9223372036854775807 < (rdOf ByteArray.empty bd a0_0).size + 2 + bh.size) = False := eq_false (Nat.not_lt.2 (by have h_ := c20; simp only [ByteArray.size_append] at h_; exact h_))
        have H' := Aside0.mk H; clear H; obtain ⟨de, df, dg, dh, di⟩ := c5e bb; obtain ⟨dj, dk, dl, dm, dn⟩ := z5_ bb
        go_wp2_with (first | ((with_reducible refine gate_callee (f := 16) rfl ?_); refine goesM (some 23) rfl rfl Tryd.func16 (by kernel_rfl) rfl #[.int .i64 a0_1] rfl ?_; (with_reducible refine (spec_l7Digits.calls k a0_1 bh _ A19.out).mono ?_); rintro e dW ⟨rfl, hb⟩; refine ⟨_, rfl, ?_⟩; replace bD := nR bD hb; replace bb := nblk bb hb; replace HB := nbs HB hb; (try clear hb)))
        go_meet
        case rel => exact ⟨_, (((rdOf ByteArray.empty bd a0_0) ++ (⟨#[32, 114]⟩ : ByteArray)) ++ bh), (by first | rfl | (simp; done) | (simp [*]; done)), H', ⟨by first | omega | exact Nat.le_refl _⟩, ⟨nb bb⟩, ⟨nbe HB⟩⟩
       ·rw [if_neg c20] at H
        exact absurd H (by simp)
      ·rw [if_neg c18] at H
       exact absurd H (by simp)
    case rest =>
     clear bJ; try clear c1
     try clear p1
     try clear q1
     try clear dy
     try clear c2
     try clear p2
     try clear c3
     try clear c5
     try clear c6
     try clear c6b0
     try clear c7
     try clear c7b0
     try clear p12
     try clear q12
     try clear dz
     try clear c13
     try clear c14
     try clear c15
     try clear c16
     try clear c17
     try clear c17b0
     try clear c17b1
     try clear c18
     try clear c18b0
     try clear c18b1
     try clear c18b2
     try clear c20
     try clear c20b0
     try clear c20b1
     try clear c20b2
     try clear bK
     try clear bL
     try clear bM
     try clear bN
     try clear bO
     try clear b2
     try clear b3
     try clear b4
     try clear b5
     try clear b6
     try clear de
     try clear df
     try clear dg
     try clear dh
     try clear di
     try clear bP
     try clear bQ
     try clear bR
     try clear bS
     try clear bT
     try clear b7
     try clear b8
     try clear b9
     try clear da
     try clear db
     try clear dj
     try clear dk
     try clear dl
     try clear dm
     try clear dn
     try clear bU
     try clear p129
     try clear q129
     obtain ⟨kq, bk, rfl, HA, dp, bb, HB⟩ := hcut
     cases kq with
     | zero => exact absurd HA.out (by simp [spec_InsText.j0])
     | succ kj7 =>
      have H := HA.out; clear HA; simp only [spec_InsText.j0] at H; have bV := Aside0.mk H; clear H
      go_upto_if 27 with (fail)
      go_cut [4] (fun v4 wc => ∃ (kq : Nat) (bg : ByteArray), v4 = .string bg ∧ Aside0 (spec_InsText.j1 kq bc bg a0_0 a0_1 a0_2 a0_3 a0_4 = some r) ∧ Aside0 (kq ≤ kj7) ∧ Aside0 (wc.heap[bp]? = some (.cells #[.int .i64 a0_0, .int .i64 a0_1, .int .i64 a0_2, .int .i64 a0_3, .int .i64 a0_4] 25 (0, 0))) ∧ Aside0 (Below w.heap.size w wc))
      case first =>
       have H := bV.out; clear bV
       by_cases c24 : (Go.bits .and .i64 bc 2) = 0
       ·rw [if_pos c24] at H
        have c24b0 : ((Go.bits .and .i64 bc 2) == 0) = true := beq_iff_eq.mpr c24; have c24b1 : ((Go.bits .and .i64 bc 2) != 0) = false := bne_eq_false_iff_eq.mpr c24; clear c24; (first | rw [c24b0] | (simp only [i64_w, i32_w]; rw [c24b0]) | skip); have H' := Aside0.mk H; clear H; go_wp2
        go_meet
        case rel => exact ⟨_, (bk), (by first | rfl | (simp; done) | (simp [*]; done)), H', ⟨by have := dp.out; first | omega | exact Nat.le_refl _⟩, ⟨nb bb⟩, ⟨nbe HB⟩⟩
       ·rw [if_neg c24] at H
        have c24b0 : ((Go.bits .and .i64 bc 2) == 0) = false := beq_eq_false_iff_ne.mpr c24; have c24b1 : ((Go.bits .and .i64 bc 2) != 0) = true := bne_iff_ne.mpr c24; (first | rw [c24b0] | (simp only [i64_w, i32_w]; rw [c24b0]) | skip)
        by_cases c25 : bk.size + 2 ≤ 9223372036854775807
        ·rw [if_pos c25] at H
         have c25b0 := eq_true c25; have c25b1 : decide (bk.size + 2 ≤ 9223372036854775807) = true := decide_eq_true c25
         try have c25b2 : (9223372036854775807 < bk.size + 2) = False := eq_false (Nat.not_lt.2 c25)
         replace H := Option.bind_eq_some_iff.mp H; obtain ⟨bm, A260, H⟩ := H; replace H : (if (bk ++ (⟨#[32, 114]⟩ : ByteArray)).size + bm.size ≤ 9223372036854775807 then (spec_InsText.j1 kj7 bc ((bk ++ (⟨#[32, 114]⟩ : ByteArray)) ++ bm) a0_0 a0_1 a0_2 a0_3 a0_4) else (none)) = some r := H; have A26 := Aside0.mk A260; clear A260
         by_cases c27 : (bk ++ (⟨#[32, 114]⟩ : ByteArray)).size + bm.size ≤ 9223372036854775807
         ·rw [if_pos c27] at H
          have c27b0 := eq_true c27; have c27b1 : decide ((bk ++ (⟨#[32, 114]⟩ : ByteArray)).size + bm.size ≤ 9223372036854775807) = true := decide_eq_true c27
          try have c27b2 : (9223372036854775807 < (bk ++ (⟨#[32, 114]⟩ : ByteArray)).size + bm.size) = False := eq_false (Nat.not_lt.2 c27)
          have c27b3 : (9223372036854775807 < bk.size + 2 + bm.size) = False := eq_false (Nat.not_lt.2 (by have h_ := c27; simp only [ByteArray.size_append] at h_; exact h_))
          have H' := Aside0.mk H; clear H; obtain ⟨dA, dB, dC, dD, dE⟩ := c5e bb; obtain ⟨dF, dG, dH, dI, dJ⟩ := z5_ bb
          go_wp2_with (first | ((with_reducible refine gate_callee (f := 16) rfl ?_); refine goesM (some 32) rfl rfl Tryd.func16 (by kernel_rfl) rfl #[.int .i64 a0_2] rfl ?_; (with_reducible refine (spec_l7Digits.calls kj7 a0_2 bm _ A26.out).mono ?_); rintro e dX ⟨rfl, hb⟩; refine ⟨_, rfl, ?_⟩; replace bb := nblk bb hb; replace HB := nbs HB hb; (try clear hb)))
          go_meet
          case rel => exact ⟨_, ((bk ++ (⟨#[32, 114]⟩ : ByteArray)) ++ bm), (by first | rfl | (simp; done) | (simp [*]; done)), H', ⟨by have := dp.out; first | omega | exact Nat.le_refl _⟩, ⟨nb bb⟩, ⟨nbe HB⟩⟩
         ·rw [if_neg c27] at H
          exact absurd H (by simp)
        ·rw [if_neg c25] at H
         exact absurd H (by simp)
      case rest =>
       clear bV; try clear c1
       try clear p1
       try clear q1
       try clear dy
       try clear c2
       try clear p2
       try clear c3
       try clear c5
       try clear c6
       try clear c6b0
       try clear c7
       try clear c7b0
       try clear p12
       try clear q12
       try clear dz
       try clear c13
       try clear c14
       try clear c15
       try clear c16
       try clear c17
       try clear c17b0
       try clear c17b1
       try clear c18
       try clear c18b0
       try clear c18b1
       try clear c18b2
       try clear c20
       try clear c20b0
       try clear c20b1
       try clear c20b2
       try clear c24
       try clear c24b0
       try clear c24b1
       try clear c25
       try clear c25b0
       try clear c25b1
       try clear c25b2
       try clear c27
       try clear c27b0
       try clear c27b1
       try clear c27b2
       try clear bK
       try clear bL
       try clear bM
       try clear bN
       try clear bO
       try clear b2
       try clear b3
       try clear b4
       try clear b5
       try clear b6
       try clear de
       try clear df
       try clear dg
       try clear dh
       try clear di
       try clear dA
       try clear dB
       try clear dC
       try clear dD
       try clear dE
       try clear bP
       try clear bQ
       try clear bR
       try clear bS
       try clear bT
       try clear b7
       try clear b8
       try clear b9
       try clear da
       try clear db
       try clear dj
       try clear dk
       try clear dl
       try clear dm
       try clear dn
       try clear dF
       try clear dG
       try clear dH
       try clear dI
       try clear dJ
       try clear bU
       try clear p1
       try clear p12
       try clear p129
       try clear p2
       try clear q1
       try clear q12
       try clear q129
       obtain ⟨kq, bg, rfl, HA, dY, bb, HB⟩ := hcut
       cases kq with
       | zero => exact absurd HA.out (by simp [spec_InsText.j1])
       | succ kj22 =>
        have H := HA.out; clear HA; simp only [spec_InsText.j1] at H
        by_cases c30 : (Go.bits .and .i64 bc 4) = 0
        ·rw [if_pos c30] at H
         have c30b0 : ((Go.bits .and .i64 bc 4) == 0) = true := beq_iff_eq.mpr c30; have c30b1 : ((Go.bits .and .i64 bc 4) != 0) = false := bne_eq_false_iff_eq.mpr c30; clear c30
         by_cases c31 : (Go.bits .and .i64 bc 8) = 0
         ·rw [if_pos c31] at H
          have c31b0 : ((Go.bits .and .i64 bc 8) == 0) = true := beq_iff_eq.mpr c31; have c31b1 : ((Go.bits .and .i64 bc 8) != 0) = false := bne_eq_false_iff_eq.mpr c31; clear c31; obtain rfl := Option.some.inj H; go_wp2
          go_ret
          exact ⟨er_, nbe HB⟩
         ·rw [if_neg c31] at H
          have c31b0 : ((Go.bits .and .i64 bc 8) == 0) = false := beq_eq_false_iff_ne.mpr c31; have c31b1 : ((Go.bits .and .i64 bc 8) != 0) = true := bne_iff_ne.mpr c31
          by_cases c32 : bg.size + 1 ≤ 9223372036854775807
          ·rw [if_pos c32] at H
           have c32b0 := eq_true c32; have c32b1 : decide (bg.size + 1 ≤ 9223372036854775807) = true := decide_eq_true c32
           try have c32b2 : (9223372036854775807 < bg.size + 1) = False := eq_false (Nat.not_lt.2 c32)
           replace H := Option.bind_eq_some_iff.mp H; obtain ⟨bo, A330, H⟩ := H; replace H : (if (bg ++ (⟨#[32]⟩ : ByteArray)).size + bo.size ≤ 9223372036854775807 then (some ((bg ++ (⟨#[32]⟩ : ByteArray)) ++ bo)) else (none)) = some r := H; have A33 := Aside0.mk A330; clear A330
           by_cases c34 : (bg ++ (⟨#[32]⟩ : ByteArray)).size + bo.size ≤ 9223372036854775807
           ·rw [if_pos c34] at H
            have c34b0 := eq_true c34; have c34b1 : decide ((bg ++ (⟨#[32]⟩ : ByteArray)).size + bo.size ≤ 9223372036854775807) = true := decide_eq_true c34
            try have c34b2 : (9223372036854775807 < (bg ++ (⟨#[32]⟩ : ByteArray)).size + bo.size) = False := eq_false (Nat.not_lt.2 c34)
            have c34b3 : (9223372036854775807 < bg.size + 1 + bo.size) = False := eq_false (Nat.not_lt.2 (by have h_ := c34; simp only [ByteArray.size_append] at h_; exact h_))
            obtain rfl := Option.some.inj H; obtain ⟨dZ, d0, d1, d2, d3⟩ := c5e bb; obtain ⟨d4, d5, d6, d7, d8⟩ := z5_ bb
            go_wp2_with (first | ((with_reducible refine gate_callee (f := 16) rfl ?_); refine goesM (some 50) rfl rfl Tryd.func16 (by kernel_rfl) rfl #[.int .i64 a0_4] rfl ?_; (with_reducible refine (spec_l7Digits.calls kj22 a0_4 bo _ A33.out).mono ?_); rintro e d9 ⟨rfl, hb⟩; refine ⟨_, rfl, ?_⟩; replace bb := nblk bb hb; replace HB := nbs HB hb; (try clear hb)))
            go_ret
            exact ⟨er_, nbe HB⟩
           ·rw [if_neg c34] at H
            exact absurd H (by simp)
          ·rw [if_neg c32] at H
           exact absurd H (by simp)
        ·rw [if_neg c30] at H
         have c30b0 : ((Go.bits .and .i64 bc 4) == 0) = false := beq_eq_false_iff_ne.mpr c30; have c30b1 : ((Go.bits .and .i64 bc 4) != 0) = true := bne_iff_ne.mpr c30
         by_cases c37 : bg.size + 2 ≤ 9223372036854775807
         ·rw [if_pos c37] at H
          have c37b0 := eq_true c37; have c37b1 : decide (bg.size + 2 ≤ 9223372036854775807) = true := decide_eq_true c37
          try have c37b2 : (9223372036854775807 < bg.size + 2) = False := eq_false (Nat.not_lt.2 c37)
          replace H := Option.bind_eq_some_iff.mp H; obtain ⟨bi, A380, H⟩ := H; replace H : (if (bg ++ (⟨#[32, 114]⟩ : ByteArray)).size + bi.size ≤ 9223372036854775807 then (if (Go.bits .and .i64 bc 8) = 0 then (some ((bg ++ (⟨#[32, 114]⟩ : ByteArray)) ++ bi)) else (if ((bg ++ (⟨#[32, 114]⟩ : ByteArray)) ++ bi).size + 1 ≤ 9223372036854775807 then ((spec_l7Digits.f kj22 a0_4).bind fun bl => (if (((bg ++ (⟨#[32, 114]⟩ : ByteArray)) ++ bi) ++ (⟨#[32]⟩ : ByteArray)).size + bl.size ≤ 9223372036854775807 then (some ((((bg ++ (⟨#[32, 114]⟩ : ByteArray)) ++ bi) ++ (⟨#[32]⟩ : ByteArray)) ++ bl)) else (none))) else (none))) else (none)) = some r := H; have A38 := Aside0.mk A380; clear A380
          by_cases c39 : (bg ++ (⟨#[32, 114]⟩ : ByteArray)).size + bi.size ≤ 9223372036854775807
          ·rw [if_pos c39] at H
           have c39b0 := eq_true c39; have c39b1 : decide ((bg ++ (⟨#[32, 114]⟩ : ByteArray)).size + bi.size ≤ 9223372036854775807) = true := decide_eq_true c39
           try have c39b2 : (9223372036854775807 < (bg ++ (⟨#[32, 114]⟩ : ByteArray)).size + bi.size) = False := eq_false (Nat.not_lt.2 c39)
           have c39b3 : (9223372036854775807 < bg.size + 2 + bi.size) = False := eq_false (Nat.not_lt.2 (by have h_ := c39; simp only [ByteArray.size_append] at h_; exact h_))
           by_cases c40 : (Go.bits .and .i64 bc 8) = 0
           ·rw [if_pos c40] at H
            have c40b0 : ((Go.bits .and .i64 bc 8) == 0) = true := beq_iff_eq.mpr c40; have c40b1 : ((Go.bits .and .i64 bc 8) != 0) = false := bne_eq_false_iff_eq.mpr c40; clear c40; obtain rfl := Option.some.inj H; obtain ⟨ea, eb, ec, ed, ee⟩ := c5e bb; obtain ⟨ef, eg, eh, ei, ej⟩ := z5_ bb
            go_wp2_with (first | ((with_reducible refine gate_callee (f := 16) rfl ?_); refine goesM (some 41) rfl rfl Tryd.func16 (by kernel_rfl) rfl #[.int .i64 a0_3] rfl ?_; (with_reducible refine (spec_l7Digits.calls kj22 a0_3 bi _ A38.out).mono ?_); rintro e ek ⟨rfl, hb⟩; refine ⟨_, rfl, ?_⟩; replace bb := nblk bb hb; replace HB := nbs HB hb; (try clear hb)))
            go_ret
            exact ⟨er_, nbe HB⟩
           ·rw [if_neg c40] at H
            have c40b0 : ((Go.bits .and .i64 bc 8) == 0) = false := beq_eq_false_iff_ne.mpr c40; have c40b1 : ((Go.bits .and .i64 bc 8) != 0) = true := bne_iff_ne.mpr c40
            by_cases c43 : ((bg ++ (⟨#[32, 114]⟩ : ByteArray)) ++ bi).size + 1 ≤ 9223372036854775807
            ·rw [if_pos c43] at H
             have c43b0 := eq_true c43; have c43b1 : decide (((bg ++ (⟨#[32, 114]⟩ : ByteArray)) ++ bi).size + 1 ≤ 9223372036854775807) = true := decide_eq_true c43
             try have c43b2 : (9223372036854775807 < ((bg ++ (⟨#[32, 114]⟩ : ByteArray)) ++ bi).size + 1) = False := eq_false (Nat.not_lt.2 c43)
             have c43b3 : (9223372036854775807 < bg.size + 2 + bi.size + 1) = False := eq_false (Nat.not_lt.2 (by have h_ := c43; simp only [ByteArray.size_append] at h_; exact h_))
             replace H := Option.bind_eq_some_iff.mp H; obtain ⟨bl, A440, H⟩ := H; replace H : (if (((bg ++ (⟨#[32, 114]⟩ : ByteArray)) ++ bi) ++ (⟨#[32]⟩ : ByteArray)).size + bl.size ≤ 9223372036854775807 then (some ((((bg ++ (⟨#[32, 114]⟩ : ByteArray)) ++ bi) ++ (⟨#[32]⟩ : ByteArray)) ++ bl)) else (none)) = some r := H; have A44 := Aside0.mk A440; clear A440
             by_cases c45 : (((bg ++ (⟨#[32, 114]⟩ : ByteArray)) ++ bi) ++ (⟨#[32]⟩ : ByteArray)).size + bl.size ≤ 9223372036854775807
             ·rw [if_pos c45] at H
              have c45b0 := eq_true c45; have c45b1 : decide ((((bg ++ (⟨#[32, 114]⟩ : ByteArray)) ++ bi) ++ (⟨#[32]⟩ : ByteArray)).size + bl.size ≤ 9223372036854775807) = true := decide_eq_true c45
              try have c45b2 : (9223372036854775807 < (((bg ++ (⟨#[32, 114]⟩ : ByteArray)) ++ bi) ++ (⟨#[32]⟩ : ByteArray)).size + bl.size) = False := eq_false (Nat.not_lt.2 c45)
              have c45b3 : (9223372036854775807 < bg.size + 2 + bi.size + 1 + bl.size) = False := eq_false (Nat.not_lt.2 (by have h_ := c45; simp only [ByteArray.size_append] at h_; exact h_))
              obtain rfl := Option.some.inj H; obtain ⟨el, em, en, eo, ep⟩ := c5e bb; obtain ⟨er, es, et, eu, ev⟩ := z5_ bb
              go_wp2_with (first | ((with_reducible refine gate_callee (f := 16) rfl ?_); refine goesM (some 41) rfl rfl Tryd.func16 (by kernel_rfl) rfl #[.int .i64 a0_3] rfl ?_; (with_reducible refine (spec_l7Digits.calls kj22 a0_3 bi _ A38.out).mono ?_); rintro e ew ⟨rfl, hb⟩; refine ⟨_, rfl, ?_⟩; replace bb := nblk bb hb; replace HB := nbs HB hb; (try clear hb); obtain ⟨ex, ey, ez, eA, eB⟩ := c5e bb; obtain ⟨eC, eD, eE, eF, eG⟩ := z5_ bb) | ((with_reducible refine gate_callee (f := 16) rfl ?_); refine goesM (some 50) rfl rfl Tryd.func16 (by kernel_rfl) rfl #[.int .i64 a0_4] rfl ?_; (with_reducible refine (spec_l7Digits.calls kj22 a0_4 bl _ A44.out).mono ?_); rintro e eH ⟨rfl, hb⟩; refine ⟨_, rfl, ?_⟩; replace bb := nblk bb hb; replace HB := nbs HB hb; (try clear hb)))
              go_ret
              exact ⟨er_, nbe HB⟩
             ·rw [if_neg c45] at H
              exact absurd H (by simp)
            ·rw [if_neg c43] at H
             exact absurd H (by simp)
          ·rw [if_neg c39] at H
           exact absurd H (by simp)
         ·rw [if_neg c37] at H
          exact absurd H (by simp)
   ·rw [if_neg c7] at H
    exact absurd H (by simp)
  ·rw [if_neg c6] at H
   exact absurd H (by simp)
 ·replace c3 := Bool.eq_false_iff.mpr c3
  subst c3; have H1 : (some (⟨#[]⟩ : ByteArray)) = some r := by rw [if_neg (show ¬ (false = true) by decide)] at H; exact H
  clear H; have H := H1; clear H1; obtain rfl := Option.some.inj H
  go_enter Tryd.func5, Tryd.ntmps5
  go_wp2_with (first | ((with_reducible refine gate_dst (N := 1) rfl ?_); refine bxe 1 #[.int .i64 a0_0, .int .i64 a0_1, .int .i64 a0_2, .int .i64 a0_3, .int .i64 a0_4] 25 ?_; intro bp hg eI hbox hb; have bb := hbox; have dt := nge HB hg; have du := nge HB hg; replace HB := nbs HB hb; clear hb hbox hg; obtain ⟨eJ, eK, eL, eM, eN⟩ := c5e bb; obtain ⟨eO, eP, eQ, eR, eS⟩ := z5_ bb) | ((with_reducible refine gate_callee (f := 13) rfl ?_); refine goesM (some 6) rfl rfl Tryd.func13 (by kernel_rfl) rfl #[.agg #[.int .i64 a0_0, .int .i64 a0_1, .int .i64 a0_2, .int .i64 a0_3, .int .i64 a0_4]] rfl ?_; (with_reducible refine (spec_InsOk.calls a0_0 a0_1 a0_2 a0_3 a0_4 false _ A2.out).mono ?_); rintro e eT ⟨rfl, hb⟩; refine ⟨_, rfl, ?_⟩; replace bb := nblk bb hb; replace HB := nbs HB hb; (try clear hb)))
  go_ret
  exact ⟨er_, nbe HB⟩

/-! ### spec_CodeOk: function 22 -/
def spec_CodeOk.l0 : Nat → List (S25) → Int → Option (Bool)
 | 0, _, _ => none
 | k + 1, x0, x3 => if x3 < (x0.length : Int) then (if 0 ≤ x3 then ((spec_InsOk.f ((rd_T25 x0 x3).f0) ((rd_T25 x0 x3).f1) ((rd_T25 x0 x3).f2) ((rd_T25 x0 x3).f3) ((rd_T25 x0 x3).f4)).bind fun bE => (if bE = true then (spec_CodeOk.l0 k x0 (wrap64 (x3 + 1))) else (some false))) else (none)) else ((spec_l1In.f (x0.length : Int) 1 48).bind fun bF => (some bF))
def spec_CodeOk.f (k : Nat) (l0 : List (S25)) : Option (Bool) := spec_CodeOk.l0 k l0 0
theorem spec_CodeOk.mono_l : ∀ k, (∀ y0 y1, LeO (spec_CodeOk.l0 k y0 y1) (spec_CodeOk.l0 (k + 1) y0 y1))
 | 0 => fun _ _ r h => by simp [spec_CodeOk.l0] at h
 | k + 1 => by
  have ih0 := spec_CodeOk.mono_l k
  ·intro y0 y1
   unfold spec_CodeOk.l0
   repeat' first
   | (with_reducible exact ih0 _ _)
   | (with_reducible exact LeO.refl _)
   | (with_reducible exact LeO.none _)
   | (with_reducible refine LeO.ite ?_ ?_)
   | (with_reducible refine LeO.bind ?_ (fun _ => ?_))
   | exact ih0 _ _
   | exact LeO.none _
   | refine LeO.ite ?_ ?_
   | refine LeO.bind ?_ (fun _ => ?_)
theorem spec_CodeOk.mono : ∀ a0 k, LeO (spec_CodeOk.f k a0) (spec_CodeOk.f (k + 1) a0) := by
 intro a0 k; have ih0 := spec_CodeOk.mono_l k
 unfold spec_CodeOk.f
 repeat' first
   | (with_reducible exact ih0 _ _)
   | (with_reducible exact LeO.refl _)
   | (with_reducible exact LeO.none _)
   | (with_reducible refine LeO.ite ?_ ?_)
   | (with_reducible refine LeO.bind ?_ (fun _ => ?_))
   | exact ih0 _ _
   | exact LeO.none _
   | refine LeO.ite ?_ ?_
   | refine LeO.bind ?_ (fun _ => ?_)
set_option maxHeartbeats 8000000 in
set_option maxRecDepth 100000 in
theorem spec_CodeOk.calls (k : Nat) (A0 : Option Addr) (c0 : Nat) (l0 : List (S25)) (r : Bool) (w : World) (hr0 : Kd.C k25 w A0 l0.length l0) (hc0 : l0.length ≤ c0) (h : spec_CodeOk.f k l0 = some r) :
  Calls Tryd.prog 22 #[.slice A0 l0.length c0] w fun e w' => e = .returned (.bool r) ∧ Below w.heap.size w w' := by
 have hu25 := Tryd.underlying25; have bx := Aside0.mk hr0; have bW := Aside0.mk hc0; clear hr0 hc0; have HB := Aside0.mk (Below.refl w.heap.size w); have H : (spec_CodeOk.l0 k l0 0) = some r := h; clear h; have H' := Aside0.mk H; clear H
 go_enter Tryd.func22, Tryd.ntmps22
 go_wp2
 go_loopg [3] k (fun kq v3 w' => ∃ (ba : Int), v3 = .int .i64 ba ∧ Aside0 (spec_CodeOk.l0 kq l0 ba = some r) ∧ Aside0 (kq ≤ k) ∧ Aside0 (Below w.heap.size w w'))
 case atStart => exact ⟨(0), (by first | rfl | (simp; done) | (simp [*]; done)), H', ⟨Nat.le_refl _⟩, ⟨nbe HB⟩⟩
 case round =>
  clear H'; obtain ⟨ba, rfl, HA, bA, HB⟩ := hrel
  cases gk with
  | zero => exact absurd HA.out (by simp [spec_CodeOk.l0])
  | succ k1 =>
   have H := HA.out; clear HA; simp only [spec_CodeOk.l0] at H
   by_cases c2 : ba < (l0.length : Int)
   ·rw [if_pos c2] at H
    have c2b0 : decide (ba < (l0.length : Int)) = true := decide_eq_true c2; clear c2
    by_cases c3 : 0 ≤ ba
    ·rw [if_pos c3] at H
     have c3b0 : decide (0 ≤ ba) = true := decide_eq_true c3; clear c3; replace H := Option.bind_eq_some_iff.mp H; obtain ⟨bE, A40, H⟩ := H; replace H : (if bE = true then (spec_CodeOk.l0 k1 l0 (wrap64 (ba + 1))) else (some false)) = some r := H; have A4 := Aside0.mk A40; clear A40
     by_cases c5 : bE = true
     ·subst c5
      have H1 : (spec_CodeOk.l0 k1 l0 (wrap64 (ba + 1))) = some r := by rw [if_pos rfl] at H; exact H
      clear H; have H := H1; clear H1; have H' := Aside0.mk H; clear H; have p135 : 0 ≤ (ba : Int) := of_decide_eq_true (by first | (with_reducible assumption) | assumption); have q135 : ba < (l0.length : Int) := of_decide_eq_true (by first | (with_reducible assumption) | assumption); obtain ⟨dK, e135, br, bs, bt, bu, bv⟩ := at_T25 bx.out ba p135 q135
      cases e135
      replace br := (HB.out.cell (World.block_lt_of_cell? w _ br)).trans br; replace bs := (HB.out.cell (World.block_lt_of_cell? w _ bs)).trans bs; replace bt := (HB.out.cell (World.block_lt_of_cell? w _ bt)).trans bt; replace bu := (HB.out.cell (World.block_lt_of_cell? w _ bu)).trans bu; replace bv := (HB.out.cell (World.block_lt_of_cell? w _ bv)).trans bv; replace p135 := eq_true p135; replace q135 := eq_true q135
      go_wp2_with (first | ((with_reducible refine gate_callee (f := 13) rfl ?_); refine goesM (some 14) rfl rfl Tryd.func13 (by kernel_rfl) rfl #[.agg #[.int .i64 ((rd_T25 l0 ba).f0), .int .i64 ((rd_T25 l0 ba).f1), .int .i64 ((rd_T25 l0 ba).f2), .int .i64 ((rd_T25 l0 ba).f3), .int .i64 ((rd_T25 l0 ba).f4)]] rfl ?_; (with_reducible refine (spec_InsOk.calls ((rd_T25 l0 ba).f0) ((rd_T25 l0 ba).f1) ((rd_T25 l0 ba).f2) ((rd_T25 l0 ba).f3) ((rd_T25 l0 ba).f4) true _ A4.out).mono ?_); rintro e w6 ⟨rfl, hb⟩; refine ⟨_, rfl, ?_⟩; replace HB := nbs HB hb; (try clear hb)))
      go_roundg k1
      case measure => have := bA.out; omega
      case rel => exact ⟨(wrap64 (ba + 1)), (by first | rfl | (simp; done) | (simp [*]; done)), H', ⟨by have := bA.out; omega⟩, ⟨nbe HB⟩⟩
     ·replace c5 := Bool.eq_false_iff.mpr c5
      subst c5; have H1 : (some false) = some r := by rw [if_neg (show ¬ (false = true) by decide)] at H; exact H
      clear H; have H := H1; clear H1; obtain rfl := Option.some.inj H; have p135 : 0 ≤ (ba : Int) := of_decide_eq_true (by first | (with_reducible assumption) | assumption); have q135 : ba < (l0.length : Int) := of_decide_eq_true (by first | (with_reducible assumption) | assumption); obtain ⟨dK, e135, br, bs, bt, bu, bv⟩ := at_T25 bx.out ba p135 q135
      cases e135
      replace br := (HB.out.cell (World.block_lt_of_cell? w _ br)).trans br; replace bs := (HB.out.cell (World.block_lt_of_cell? w _ bs)).trans bs; replace bt := (HB.out.cell (World.block_lt_of_cell? w _ bt)).trans bt; replace bu := (HB.out.cell (World.block_lt_of_cell? w _ bu)).trans bu; replace bv := (HB.out.cell (World.block_lt_of_cell? w _ bv)).trans bv; replace p135 := eq_true p135; replace q135 := eq_true q135
      go_wp2_with (first | ((with_reducible refine gate_callee (f := 13) rfl ?_); refine goesM (some 14) rfl rfl Tryd.func13 (by kernel_rfl) rfl #[.agg #[.int .i64 ((rd_T25 l0 ba).f0), .int .i64 ((rd_T25 l0 ba).f1), .int .i64 ((rd_T25 l0 ba).f2), .int .i64 ((rd_T25 l0 ba).f3), .int .i64 ((rd_T25 l0 ba).f4)]] rfl ?_; (with_reducible refine (spec_InsOk.calls ((rd_T25 l0 ba).f0) ((rd_T25 l0 ba).f1) ((rd_T25 l0 ba).f2) ((rd_T25 l0 ba).f3) ((rd_T25 l0 ba).f4) false _ A4.out).mono ?_); rintro e w7 ⟨rfl, hb⟩; refine ⟨_, rfl, ?_⟩; replace HB := nbs HB hb; (try clear hb)))
      go_ret
      exact ⟨er_, nbe HB⟩
    ·rw [if_neg c3] at H
     exact absurd H (by simp)
   ·rw [if_neg c2] at H
    have c2b0 : decide (ba < (l0.length : Int)) = false := decide_eq_false c2; clear c2; replace H := Option.bind_eq_some_iff.mp H; obtain ⟨bF, A80, H⟩ := H; replace H : (some bF) = some r := H; have A8 := Aside0.mk A80; clear A80; obtain rfl := Option.some.inj H
    go_wp2_with (first | ((with_reducible refine gate_callee (f := 25) rfl ?_); refine goesM (some 18) rfl rfl Tryd.func25 (by kernel_rfl) rfl #[.int .i64 (l0.length : Int), .int .i64 1, .int .i64 48] rfl ?_; (with_reducible refine (spec_l1In.calls (l0.length : Int) 1 48 bF _ A8.out).mono ?_); rintro e w' ⟨rfl, ⟨nd, rfl⟩⟩; refine ⟨_, rfl, ?_⟩))
    go_ret
    exact ⟨er_, nbe HB⟩

/-! ### spec_CodeText: function 9 -/
def spec_CodeText.l0 : Nat → List (S25) → ByteArray → Int → Option (ByteArray)
 | 0, _, _, _ => none
 | k + 1, x0, x3, x4 => if x4 < (x0.length : Int) then ((spec_CodeOk.f k x0).bind fun bG => (if bG = true then (if 0 ≤ x4 then ((spec_InsText.f k ((rd_T25 x0 x4).f0) ((rd_T25 x0 x4).f1) ((rd_T25 x0 x4).f2) ((rd_T25 x0 x4).f3) ((rd_T25 x0 x4).f4)).bind fun bj => (if x3.size + bj.size ≤ 9223372036854775807 then (if (x3 ++ bj).size + 1 ≤ 9223372036854775807 then (spec_CodeText.l0 k x0 ((x3 ++ bj) ++ (⟨#[10]⟩ : ByteArray)) (wrap64 (x4 + 1))) else (none)) else (none))) else (none)) else (some x3))) else (some x3)
def spec_CodeText.f (k : Nat) (l0 : List (S25)) : Option (ByteArray) := spec_CodeText.l0 k l0 (⟨#[]⟩ : ByteArray) 0
theorem spec_CodeText.mono_l : ∀ k, (∀ y0 y1 y2, LeO (spec_CodeText.l0 k y0 y1 y2) (spec_CodeText.l0 (k + 1) y0 y1 y2))
 | 0 => fun _ _ _ r h => by simp [spec_CodeText.l0] at h
 | k + 1 => by
  have ih0 := spec_CodeText.mono_l k
  ·intro y0 y1 y2
   unfold spec_CodeText.l0
   repeat' first
   | (with_reducible exact ih0 _ _ _)
   | (with_reducible exact spec_CodeOk.mono _ _)
   | (with_reducible exact spec_InsText.mono _ _ _ _ _ _)
   | (with_reducible exact LeO.refl _)
   | (with_reducible exact LeO.none _)
   | (with_reducible refine LeO.ite ?_ ?_)
   | (with_reducible refine LeO.bind ?_ (fun _ => ?_))
   | exact ih0 _ _ _
   | exact spec_CodeOk.mono _ _
   | exact spec_InsText.mono _ _ _ _ _ _
   | exact LeO.none _
   | refine LeO.ite ?_ ?_
   | refine LeO.bind ?_ (fun _ => ?_)
theorem spec_CodeText.mono : ∀ a0 k, LeO (spec_CodeText.f k a0) (spec_CodeText.f (k + 1) a0) := by
 intro a0 k; have ih0 := spec_CodeText.mono_l k
 unfold spec_CodeText.f
 repeat' first
   | (with_reducible exact ih0 _ _ _)
   | (with_reducible exact spec_CodeOk.mono _ _)
   | (with_reducible exact spec_InsText.mono _ _ _ _ _ _)
   | (with_reducible exact LeO.refl _)
   | (with_reducible exact LeO.none _)
   | (with_reducible refine LeO.ite ?_ ?_)
   | (with_reducible refine LeO.bind ?_ (fun _ => ?_))
   | exact ih0 _ _ _
   | exact spec_CodeOk.mono _ _
   | exact spec_InsText.mono _ _ _ _ _ _
   | exact LeO.none _
   | refine LeO.ite ?_ ?_
   | refine LeO.bind ?_ (fun _ => ?_)
set_option maxHeartbeats 8000000 in
set_option maxRecDepth 100000 in
theorem spec_CodeText.calls (k : Nat) (A0 : Option Addr) (c0 : Nat) (l0 : List (S25)) (r : ByteArray) (w : World) (hr0 : Kd.C k25 w A0 l0.length l0) (hc0 : l0.length ≤ c0) (h : spec_CodeText.f k l0 = some r) :
  Calls Tryd.prog 9 #[.slice A0 l0.length c0] w fun e w' => e = .returned (.string r) ∧ Below w.heap.size w w' := by
 have hu25 := Tryd.underlying25; have bx := Aside0.mk hr0; have bW := Aside0.mk hc0; clear hr0 hc0; have HB := Aside0.mk (Below.refl w.heap.size w); have H : (spec_CodeText.l0 k l0 (⟨#[]⟩ : ByteArray) 0) = some r := h; clear h; have H' := Aside0.mk H; clear H
 go_enter Tryd.func9, Tryd.ntmps9
 go_wp2
 go_loopg [3, 4] k (fun kq v3 v4 w' => ∃ (ba : ByteArray) (bf : Int), v3 = .string ba ∧ v4 = .int .i64 bf ∧ Aside0 (spec_CodeText.l0 kq l0 ba bf = some r) ∧ Aside0 (kq ≤ k) ∧ Aside0 (Below w.heap.size w w'))
 case atStart => exact ⟨((⟨#[]⟩ : ByteArray)), (0), (by first | rfl | (simp; done) | (simp [*]; done)), (by first | rfl | (simp; done) | (simp [*]; done)), H', ⟨Nat.le_refl _⟩, ⟨nbe HB⟩⟩
 case round =>
  clear H'; obtain ⟨ba, bf, rfl, rfl, HA, bA, HB⟩ := hrel
  cases gk with
  | zero => exact absurd HA.out (by simp [spec_CodeText.l0])
  | succ k1 =>
   have H := HA.out; clear HA; simp only [spec_CodeText.l0] at H
   by_cases c2 : bf < (l0.length : Int)
   ·rw [if_pos c2] at H
    have c2b0 : decide (bf < (l0.length : Int)) = true := decide_eq_true c2; clear c2; replace H := Option.bind_eq_some_iff.mp H; obtain ⟨bG, A30, H⟩ := H; replace H : (if bG = true then (if 0 ≤ bf then ((spec_InsText.f k1 ((rd_T25 l0 bf).f0) ((rd_T25 l0 bf).f1) ((rd_T25 l0 bf).f2) ((rd_T25 l0 bf).f3) ((rd_T25 l0 bf).f4)).bind fun bj => (if ba.size + bj.size ≤ 9223372036854775807 then (if (ba ++ bj).size + 1 ≤ 9223372036854775807 then (spec_CodeText.l0 k1 l0 ((ba ++ bj) ++ (⟨#[10]⟩ : ByteArray)) (wrap64 (bf + 1))) else (none)) else (none))) else (none)) else (some ba)) = some r := H; have A3 := Aside0.mk A30; clear A30
    by_cases c4 : bG = true
    ·subst c4
     have H1 : (if 0 ≤ bf then ((spec_InsText.f k1 ((rd_T25 l0 bf).f0) ((rd_T25 l0 bf).f1) ((rd_T25 l0 bf).f2) ((rd_T25 l0 bf).f3) ((rd_T25 l0 bf).f4)).bind fun bj => (if ba.size + bj.size ≤ 9223372036854775807 then (if (ba ++ bj).size + 1 ≤ 9223372036854775807 then (spec_CodeText.l0 k1 l0 ((ba ++ bj) ++ (⟨#[10]⟩ : ByteArray)) (wrap64 (bf + 1))) else (none)) else (none))) else (none)) = some r := by rw [if_pos rfl] at H; exact H
     clear H; have H := H1; clear H1
     by_cases c5 : 0 ≤ bf
     ·rw [if_pos c5] at H
      have c5b0 : decide (0 ≤ bf) = true := decide_eq_true c5; clear c5; replace H := Option.bind_eq_some_iff.mp H; obtain ⟨bj, A60, H⟩ := H; replace H : (if ba.size + bj.size ≤ 9223372036854775807 then (if (ba ++ bj).size + 1 ≤ 9223372036854775807 then (spec_CodeText.l0 k1 l0 ((ba ++ bj) ++ (⟨#[10]⟩ : ByteArray)) (wrap64 (bf + 1))) else (none)) else (none)) = some r := H; have A6 := Aside0.mk A60; clear A60
      by_cases c7 : ba.size + bj.size ≤ 9223372036854775807
      ·rw [if_pos c7] at H
       have c7b0 := eq_true c7; have c7b1 : decide (ba.size + bj.size ≤ 9223372036854775807) = true := decide_eq_true c7
       try have c7b2 : (9223372036854775807 < ba.size + bj.size) = False := eq_false (Nat.not_lt.2 c7)
       by_cases c8 : (ba ++ bj).size + 1 ≤ 9223372036854775807
       ·rw [if_pos c8] at H
        have c8b0 := eq_true c8; have c8b1 : decide ((ba ++ bj).size + 1 ≤ 9223372036854775807) = true := decide_eq_true c8
        try have c8b2 : (9223372036854775807 < (ba ++ bj).size + 1) = False := eq_false (Nat.not_lt.2 c8)
        have c8b3 : (9223372036854775807 < ba.size + bj.size + 1) = False := eq_false (Nat.not_lt.2 (by have h_ := c8; simp only [ByteArray.size_append] at h_; exact h_))
        have H' := Aside0.mk H; clear H
        go_wp2_with (first | (go_at_call 22; (with_reducible refine (spec_CodeOk.calls k1 _ _ l0 true _ ?side1 ?side2 A3.out).mono ?_); (case side1 => exact nCb bx HB); (case side2 => exact bW.out); rintro e w9 ⟨rfl, hb⟩; replace HB := nbs HB hb; (try clear hb); have p139 : 0 ≤ (bf : Int) := of_decide_eq_true (by first | (with_reducible assumption) | assumption); have q139 : bf < (l0.length : Int) := of_decide_eq_true (by first | (with_reducible assumption) | assumption); obtain ⟨eU, e139, bX, bY, bZ, b0, b1⟩ := at_T25 bx.out bf p139 q139; cases e139; replace bX := (HB.out.cell (World.block_lt_of_cell? w _ bX)).trans bX; replace bY := (HB.out.cell (World.block_lt_of_cell? w _ bY)).trans bY; replace bZ := (HB.out.cell (World.block_lt_of_cell? w _ bZ)).trans bZ; replace b0 := (HB.out.cell (World.block_lt_of_cell? w _ b0)).trans b0; replace b1 := (HB.out.cell (World.block_lt_of_cell? w _ b1)).trans b1; replace p139 := eq_true p139; replace q139 := eq_true q139) | ((with_reducible refine gate_callee (f := 5) rfl ?_); refine goesM (some 20) rfl rfl Tryd.func5 (by kernel_rfl) rfl #[.agg #[.int .i64 ((rd_T25 l0 bf).f0), .int .i64 ((rd_T25 l0 bf).f1), .int .i64 ((rd_T25 l0 bf).f2), .int .i64 ((rd_T25 l0 bf).f3), .int .i64 ((rd_T25 l0 bf).f4)]] rfl ?_; (with_reducible refine (spec_InsText.calls k1 ((rd_T25 l0 bf).f0) ((rd_T25 l0 bf).f1) ((rd_T25 l0 bf).f2) ((rd_T25 l0 bf).f3) ((rd_T25 l0 bf).f4) bj _ A6.out).mono ?_); rintro e eV ⟨rfl, hb⟩; refine ⟨_, rfl, ?_⟩; replace HB := nbs HB hb; (try clear hb)))
        go_roundg k1
        case measure => have := bA.out; omega
        case rel => exact ⟨((ba ++ bj) ++ (⟨#[10]⟩ : ByteArray)), (wrap64 (bf + 1)), (by first | rfl | (simp; done) | (simp [*]; done)), (by first | rfl | (simp; done) | (simp [*]; done)), H', ⟨by have := bA.out; omega⟩, ⟨nbe HB⟩⟩
       ·rw [if_neg c8] at H
        exact absurd H (by simp)
      ·rw [if_neg c7] at H
       exact absurd H (by simp)
     ·rw [if_neg c5] at H
      exact absurd H (by simp)
    ·replace c4 := Bool.eq_false_iff.mpr c4
     subst c4; have H1 : (some ba) = some r := by rw [if_neg (show ¬ (false = true) by decide)] at H; exact H
     clear H; have H := H1; clear H1; obtain rfl := Option.some.inj H
     go_wp2_with (first | (go_at_call 22; (with_reducible refine (spec_CodeOk.calls k1 _ _ l0 false _ ?side1 ?side2 A3.out).mono ?_); (case side1 => exact nCb bx HB); (case side2 => exact bW.out); rintro e dv ⟨rfl, hb⟩; replace HB := nbs HB hb; (try clear hb)))
     go_ret
     exact ⟨er_, nbe HB⟩
   ·rw [if_neg c2] at H
    have c2b0 : decide (bf < (l0.length : Int)) = false := decide_eq_false c2; clear c2; obtain rfl := Option.some.inj H; go_wp2
    go_ret
    exact ⟨er_, nbe HB⟩

/-! ### laws_toIns: function 6 -/
def laws_toIns.f (a0_0 : Int) (a0_1 : Int) (a0_2 : Int) (a0_3 : Int) (a0_4 : Int) : Option (Int × Int × Int × Int × Int) := some (a0_0, a0_1, a0_2, a0_3, a0_4)
set_option maxHeartbeats 8000000 in
set_option maxRecDepth 100000 in
theorem laws_toIns.calls (a0_0 : Int) (a0_1 : Int) (a0_2 : Int) (a0_3 : Int) (a0_4 : Int) (r1 : Int) (r2 : Int) (r3 : Int) (r4 : Int) (r5 : Int) (w : World) (h : laws_toIns.f a0_0 a0_1 a0_2 a0_3 a0_4 = some (r1, r2, r3, r4, r5)) :
  Calls Tryd.prog 6 #[.agg #[.int .i64 a0_0, .int .i64 a0_1, .int .i64 a0_2, .int .i64 a0_3, .int .i64 a0_4]] w fun e w' => e = .returned (.agg #[.int .i64 r1, .int .i64 r2, .int .i64 r3, .int .i64 r4, .int .i64 r5]) ∧ Below w.heap.size w w' := by
 have hu23 := Tryd.underlying23; have hu25 := Tryd.underlying25; have HB := Aside0.mk (Below.refl w.heap.size w); have H : (some (a0_0, a0_1, a0_2, a0_3, a0_4)) = some (r1, r2, r3, r4, r5) := h; clear h; simp only [Option.some.injEq, Prod.mk.injEq] at H; obtain ⟨rfl, rfl, rfl, rfl, rfl⟩ := H
 go_enter Tryd.func6, Tryd.ntmps6
 go_wp2_with (first | ((with_reducible refine gate_dst (N := 1) rfl ?_); refine bxe 1 #[.int .i64 a0_0, .int .i64 a0_1, .int .i64 a0_2, .int .i64 a0_3, .int .i64 a0_4] 23 ?_; intro eW hg w2 hbox hb; have bn := hbox; have eX := nge HB hg; have eY := nge HB hg; replace HB := nbs HB hb; clear hb hbox hg) | ((with_reducible refine gate_dst (N := 2) rfl ?_); refine bxe 2 #[.int .i64 0, .int .i64 0, .int .i64 0, .int .i64 0, .int .i64 0] 25 ?_; intro dL hg w3 hbox hb; have bq := hbox; have eZ := nge HB hg; have e0 := nge HB hg; have dM := nlt bn hg; have dN := ngt bn hg; replace bn := nblk bn hb; replace HB := nbs HB hb; clear hb hbox hg) | ((with_reducible refine gate_dst (N := 3) rfl ?_); refine bxe 3 #[.int .i64 0, .int .i64 0, .int .i64 0, .int .i64 0, .int .i64 0] 25 ?_; intro e1 hg w4 hbox hb; have dq := hbox; have e2 := nge HB hg; have e3 := nge HB hg; have dO := nlt bn hg; have dP := ngt bn hg; have dr := nlt bq hg; have dQ := ngt bq hg; replace bn := nblk bn hb; replace bq := nblk bq hb; replace HB := nbs HB hb; clear hb hbox hg; have e4 := dM.out; have e5 := dN.out; have e6 := dO.out; have e7 := dP.out; obtain ⟨e8, e9, ga, gb, gc⟩ := c5e bn; obtain ⟨gd, gf, gg, gh, gi⟩ := z5_ bn; have gj := dQ.out; have gl := dr.out; obtain ⟨gm, gn, gp, gq, gr⟩ := c5e dq; obtain ⟨gs, gt, gu, gv, gw⟩ := z5_ dq; obtain ⟨bK, bL, bM, bN, bO⟩ := c5e bq; obtain ⟨bP, bQ, bR, bS, bT⟩ := z5_ bq))
 refine bodyPost_ret (results_cell_row rfl _ _ dL 25 #[.int .i64 a0_0, .int .i64 a0_1, .int .i64 a0_2, .int .i64 a0_3, .int .i64 a0_4] (0, 0) _ rfl (p5 bq (k5_ dr.out (nb bq))) Tryd.underlying25 rfl (by kernel_rfl)) rfl ?_; exact ⟨er_, nbe HB⟩

end Go.Proofs.YteamcnoabglobaaDoor.PFnExactCodeText
