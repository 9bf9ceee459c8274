-- Written by a program of this session (wip/patch.py turns a copy of the kit's print): the functions that the law reaches, and their walks.
import Derived.Test.YtlmcikjjeidnfaaGreatDoorPFnTextsx0
import Derived.Test.YtlmcikjjeidnfaaGreatDoorPFnTextsx2
import Derived.Test.YtlmcikjjeidnfaaGreatDoorPFnTextsx4
import Derived.Test.YtlmcikjjeidnfaaGreatDoorCFnTexts
namespace Go.Proofs.YtlmcikjjeidnfaaGreatDoor.PFnTexts
open Go.RowKit Go.Proofs.YtlmcikjjeidnfaaGreatDoorW.PrintWords Go.Proofs.YtlmcikjjeidnfaaGreatDoorW.PrintLast Go.Proofs.YtlmcikjjeidnfaaGreatDoorW.PrintMore Go.Proofs.YtlmcikjjeidnfaaGreatDoorW.Mine
attribute [local go_sem] max2_int min2_int max_two min_two max_three min_three max_four min_four   -- for this text's walks alone
set_option linter.unusedVariables false
set_option linter.unusedSimpArgs false

/-! ### spec_InsText: function 7 -/
mutual
def spec_InsText.j0 : Nat → Int → ByteArray → Int → Int → Int → Int → Int → Option (ByteArray)
  | 0, _, _, _, _, _, _, _ => none
  | k + 1, x3, x4, bt, bu, bq, br, bp => if (Go.bits .and .i64 x3 2) = 0 then (spec_InsText.j1 k x3 x4 bt bu bq br bp) else (if x4.size + 2 ≤ 9223372036854775807 then ((spec_l7Digits.f k bq).bind fun bk => (if (x4 ++ (⟨#[32, 114]⟩ : ByteArray)).size + bk.size ≤ 9223372036854775807 then (spec_InsText.j1 k x3 ((x4 ++ (⟨#[32, 114]⟩ : ByteArray)) ++ bk) bt bu bq br bp) else (none))) else (none))
def spec_InsText.j1 : Nat → Int → ByteArray → Int → Int → Int → Int → Int → Option (ByteArray)
  | 0, _, _, _, _, _, _, _ => none
  | k + 1, x3, x4, bt, bu, bq, br, bp => if (Go.bits .and .i64 x3 4) = 0 then (if (Go.bits .and .i64 x3 8) = 0 then (some x4) else (if x4.size + 1 ≤ 9223372036854775807 then ((spec_l7Digits.f k bp).bind fun bl => (if (x4 ++ (⟨#[32]⟩ : ByteArray)).size + bl.size ≤ 9223372036854775807 then (some ((x4 ++ (⟨#[32]⟩ : ByteArray)) ++ bl)) else (none))) else (none))) else (if x4.size + 2 ≤ 9223372036854775807 then ((spec_l7Digits.f k br).bind fun bg => (if (x4 ++ (⟨#[32, 114]⟩ : ByteArray)).size + bg.size ≤ 9223372036854775807 then (if (Go.bits .and .i64 x3 8) = 0 then (some ((x4 ++ (⟨#[32, 114]⟩ : ByteArray)) ++ bg)) else (if ((x4 ++ (⟨#[32, 114]⟩ : ByteArray)) ++ bg).size + 1 ≤ 9223372036854775807 then ((spec_l7Digits.f k bp).bind fun bj => (if (((x4 ++ (⟨#[32, 114]⟩ : ByteArray)) ++ bg) ++ (⟨#[32]⟩ : ByteArray)).size + bj.size ≤ 9223372036854775807 then (some ((((x4 ++ (⟨#[32, 114]⟩ : ByteArray)) ++ bg) ++ (⟨#[32]⟩ : ByteArray)) ++ bj)) else (none))) else (none))) else (none))) else (none))
end
def spec_InsText.f (k : Nat) (a0_0 : Int) (a0_1 : Int) (a0_2 : Int) (a0_3 : Int) (a0_4 : Int) : Option (ByteArray) := (spec_InsOk.f a0_0 a0_1 a0_2 a0_3 a0_4).bind fun bn => (if bn = true then ((spec_l6Has.f a0_0).bind fun bb => ((spec_l7Names.f).bind fun bc => (if 0 ≤ a0_0 then (if a0_0 < (bc.length : Int) then (if (Go.bits .and .i64 bb 1) = 0 then (spec_InsText.j0 k bb (rdOf ByteArray.empty bc a0_0) a0_0 a0_1 a0_2 a0_3 a0_4) else (if (rdOf ByteArray.empty bc a0_0).size + 2 ≤ 9223372036854775807 then ((spec_l7Digits.f k a0_1).bind fun bf => (if ((rdOf ByteArray.empty bc a0_0) ++ (⟨#[32, 114]⟩ : ByteArray)).size + bf.size ≤ 9223372036854775807 then (spec_InsText.j0 k bb (((rdOf ByteArray.empty bc a0_0) ++ (⟨#[32, 114]⟩ : ByteArray)) ++ bf) a0_0 a0_1 a0_2 a0_3 a0_4) else (none))) else (none))) else (none)) else (none)))) else (some (⟨#[]⟩ : ByteArray)))
theorem spec_InsText.mono_l : ∀ k, (∀ y0 y1 y2 y3 y4 y5 y6, LeO (spec_InsText.j0 k y0 y1 y2 y3 y4 y5 y6) (spec_InsText.j0 (k + 1) y0 y1 y2 y3 y4 y5 y6)) ∧ (∀ y0 y1 y2 y3 y4 y5 y6, LeO (spec_InsText.j1 k y0 y1 y2 y3 y4 y5 y6) (spec_InsText.j1 (k + 1) y0 y1 y2 y3 y4 y5 y6))
  | 0 => ⟨fun _ _ _ _ _ _ _ r h => by simp [spec_InsText.j0] at h, fun _ _ _ _ _ _ _ r h => by simp [spec_InsText.j1] at h⟩
  | k + 1 => by
    obtain ⟨ih0, ih1⟩ := spec_InsText.mono_l k; refine ⟨?_, ?_⟩
    · intro y0 y1 y2 y3 y4 y5 y6
      unfold spec_InsText.j0
      repeat' first
      | (with_reducible exact ih0 _ _ _ _ _ _ _)
      | (with_reducible exact ih1 _ _ _ _ _ _ _)
      | (with_reducible exact spec_l7Digits.mono _ _)
      | (with_reducible exact LeO.refl _)
      | (with_reducible exact LeO.none _)
      | (with_reducible refine LeO.ite ?_ ?_)
      | (with_reducible refine LeO.bind ?_ (fun _ => ?_))
      | exact ih0 _ _ _ _ _ _ _
      | exact ih1 _ _ _ _ _ _ _
      | exact spec_l7Digits.mono _ _
      | exact LeO.none _
      | refine LeO.ite ?_ ?_
      | refine LeO.bind ?_ (fun _ => ?_)
    · intro y0 y1 y2 y3 y4 y5 y6
      unfold spec_InsText.j1
      repeat' first
      | (with_reducible exact ih0 _ _ _ _ _ _ _)
      | (with_reducible exact ih1 _ _ _ _ _ _ _)
      | (with_reducible exact spec_l7Digits.mono _ _)
      | (with_reducible exact LeO.refl _)
      | (with_reducible exact LeO.none _)
      | (with_reducible refine LeO.ite ?_ ?_)
      | (with_reducible refine LeO.bind ?_ (fun _ => ?_))
      | exact ih0 _ _ _ _ _ _ _
      | exact ih1 _ _ _ _ _ _ _
      | exact spec_l7Digits.mono _ _
      | exact LeO.none _
      | refine LeO.ite ?_ ?_
      | refine LeO.bind ?_ (fun _ => ?_)
theorem spec_InsText.mono : ∀ a0 a1 a2 a3 a4 k, LeO (spec_InsText.f k a0 a1 a2 a3 a4) (spec_InsText.f (k + 1) a0 a1 a2 a3 a4) := by
  intro a0 a1 a2 a3 a4 k; obtain ⟨ih0, ih1⟩ := spec_InsText.mono_l k
  unfold spec_InsText.f
  repeat' first
      | (with_reducible exact ih0 _ _ _ _ _ _ _)
      | (with_reducible exact ih1 _ _ _ _ _ _ _)
      | (with_reducible exact spec_l7Digits.mono _ _)
      | (with_reducible exact LeO.refl _)
      | (with_reducible exact LeO.none _)
      | (with_reducible refine LeO.ite ?_ ?_)
      | (with_reducible refine LeO.bind ?_ (fun _ => ?_))
      | exact ih0 _ _ _ _ _ _ _
      | exact ih1 _ _ _ _ _ _ _
      | exact spec_l7Digits.mono _ _
      | exact LeO.none _
      | refine LeO.ite ?_ ?_
      | refine LeO.bind ?_ (fun _ => ?_)
set_option maxHeartbeats 8000000 in
set_option maxRecDepth 100000 in
theorem spec_InsText.calls (k : Nat) (a0_0 : Int) (a0_1 : Int) (a0_2 : Int) (a0_3 : Int) (a0_4 : Int) (r : ByteArray) (w : World) (h : spec_InsText.f k a0_0 a0_1 a0_2 a0_3 a0_4 = some r) :
    Calls Tryz.prog 7 #[.agg #[.int .i64 a0_0, .int .i64 a0_1, .int .i64 a0_2, .int .i64 a0_3, .int .i64 a0_4]] w fun e w' => e = .returned (.string r) ∧ Below w.heap.size w w' := by
  have hu25 := Tryz.underlying25; have HB := Aside0.mk (Below.refl w.heap.size w); have H : ((spec_InsOk.f a0_0 a0_1 a0_2 a0_3 a0_4).bind fun bn => (if bn = true then ((spec_l6Has.f a0_0).bind fun bb => ((spec_l7Names.f).bind fun bc => (if 0 ≤ a0_0 then (if a0_0 < (bc.length : Int) then (if (Go.bits .and .i64 bb 1) = 0 then (spec_InsText.j0 k bb (rdOf ByteArray.empty bc a0_0) a0_0 a0_1 a0_2 a0_3 a0_4) else (if (rdOf ByteArray.empty bc a0_0).size + 2 ≤ 9223372036854775807 then ((spec_l7Digits.f k a0_1).bind fun bf => (if ((rdOf ByteArray.empty bc a0_0) ++ (⟨#[32, 114]⟩ : ByteArray)).size + bf.size ≤ 9223372036854775807 then (spec_InsText.j0 k bb (((rdOf ByteArray.empty bc a0_0) ++ (⟨#[32, 114]⟩ : ByteArray)) ++ bf) a0_0 a0_1 a0_2 a0_3 a0_4) else (none))) else (none))) else (none)) else (none)))) else (some (⟨#[]⟩ : ByteArray)))) = some r := h; clear h; replace H := Option.bind_eq_some_iff.mp H; obtain ⟨bn, A20, H⟩ := H; replace H : (if bn = true then ((spec_l6Has.f a0_0).bind fun bb => ((spec_l7Names.f).bind fun bc => (if 0 ≤ a0_0 then (if a0_0 < (bc.length : Int) then (if (Go.bits .and .i64 bb 1) = 0 then (spec_InsText.j0 k bb (rdOf ByteArray.empty bc a0_0) a0_0 a0_1 a0_2 a0_3 a0_4) else (if (rdOf ByteArray.empty bc a0_0).size + 2 ≤ 9223372036854775807 then ((spec_l7Digits.f k a0_1).bind fun bf => (if ((rdOf ByteArray.empty bc a0_0) ++ (⟨#[32, 114]⟩ : ByteArray)).size + bf.size ≤ 9223372036854775807 then (spec_InsText.j0 k bb (((rdOf ByteArray.empty bc a0_0) ++ (⟨#[32, 114]⟩ : ByteArray)) ++ bf) a0_0 a0_1 a0_2 a0_3 a0_4) else (none))) else (none))) else (none)) else (none)))) else (some (⟨#[]⟩ : ByteArray))) = some r := H; have A2 := Aside0.mk A20; clear A20
  by_cases c3 : bn = true
  · subst c3
    have H1 : ((spec_l6Has.f a0_0).bind fun bb => ((spec_l7Names.f).bind fun bc => (if 0 ≤ a0_0 then (if a0_0 < (bc.length : Int) then (if (Go.bits .and .i64 bb 1) = 0 then (spec_InsText.j0 k bb (rdOf ByteArray.empty bc a0_0) a0_0 a0_1 a0_2 a0_3 a0_4) else (if (rdOf ByteArray.empty bc a0_0).size + 2 ≤ 9223372036854775807 then ((spec_l7Digits.f k a0_1).bind fun bf => (if ((rdOf ByteArray.empty bc a0_0) ++ (⟨#[32, 114]⟩ : ByteArray)).size + bf.size ≤ 9223372036854775807 then (spec_InsText.j0 k bb (((rdOf ByteArray.empty bc a0_0) ++ (⟨#[32, 114]⟩ : ByteArray)) ++ bf) a0_0 a0_1 a0_2 a0_3 a0_4) else (none))) else (none))) else (none)) else (none)))) = some r := by rw [if_pos rfl] at H; exact H
    clear H; have H := H1; clear H1; replace H := Option.bind_eq_some_iff.mp H; obtain ⟨bb, A40, H⟩ := H; replace H : ((spec_l7Names.f).bind fun bc => (if 0 ≤ a0_0 then (if a0_0 < (bc.length : Int) then (if (Go.bits .and .i64 bb 1) = 0 then (spec_InsText.j0 k bb (rdOf ByteArray.empty bc a0_0) a0_0 a0_1 a0_2 a0_3 a0_4) else (if (rdOf ByteArray.empty bc a0_0).size + 2 ≤ 9223372036854775807 then ((spec_l7Digits.f k a0_1).bind fun bf => (if ((rdOf ByteArray.empty bc a0_0) ++ (⟨#[32, 114]⟩ : ByteArray)).size + bf.size ≤ 9223372036854775807 then (spec_InsText.j0 k bb (((rdOf ByteArray.empty bc a0_0) ++ (⟨#[32, 114]⟩ : ByteArray)) ++ bf) a0_0 a0_1 a0_2 a0_3 a0_4) else (none))) else (none))) else (none)) else (none))) = some r := H; have A4 := Aside0.mk A40; clear A40; replace H := Option.bind_eq_some_iff.mp H; obtain ⟨bc, A50, H⟩ := H; replace H : (if 0 ≤ a0_0 then (if a0_0 < (bc.length : Int) then (if (Go.bits .and .i64 bb 1) = 0 then (spec_InsText.j0 k bb (rdOf ByteArray.empty bc a0_0) a0_0 a0_1 a0_2 a0_3 a0_4) else (if (rdOf ByteArray.empty bc a0_0).size + 2 ≤ 9223372036854775807 then ((spec_l7Digits.f k a0_1).bind fun bf => (if ((rdOf ByteArray.empty bc a0_0) ++ (⟨#[32, 114]⟩ : ByteArray)).size + bf.size ≤ 9223372036854775807 then (spec_InsText.j0 k bb (((rdOf ByteArray.empty bc a0_0) ++ (⟨#[32, 114]⟩ : ByteArray)) ++ bf) a0_0 a0_1 a0_2 a0_3 a0_4) else (none))) else (none))) else (none)) else (none)) = some r := H; have A5 := Aside0.mk A50; clear A50
    by_cases c6 : 0 ≤ a0_0
    · rw [if_pos c6] at H
      have c6b0 : decide (0 ≤ a0_0) = true := decide_eq_true c6; clear c6
      by_cases c7 : a0_0 < (bc.length : Int)
      · rw [if_pos c7] at H
        have c7b0 : decide (a0_0 < (bc.length : Int)) = true := decide_eq_true c7; clear c7; have bv := Aside0.mk H; clear H
        go_enter Tryz.func7, Tryz.ntmps7
        try go_wp2_with (first | ((with_reducible refine gate_dst (N := 1) rfl ?_); refine bxe 1 #[.int .i64 a0_0, .int .i64 a0_1, .int .i64 a0_2, .int .i64 a0_3, .int .i64 a0_4] 25 ?_; intro bm hg w9 hbox hb; have ba := hbox; have b8 := nge HB hg; have b9 := nge HB hg; replace HB := nbs HB hb; clear hb hbox hg; obtain ⟨bz, bA, bB, bC, bD⟩ := c5e ba; obtain ⟨bE, bF, bG, bH, bI⟩ := z5_ ba) | ((with_reducible refine gate_callee (f := 25) rfl ?_); refine goesM (some 6) rfl rfl Tryz.func25 (by kernel_rfl) rfl #[.agg #[.int .i64 a0_0, .int .i64 a0_1, .int .i64 a0_2, .int .i64 a0_3, .int .i64 a0_4]] rfl ?_; (with_reducible refine (spec_InsOk.calls a0_0 a0_1 a0_2 a0_3 a0_4 true _ A2.out).mono ?_); rintro e dq ⟨rfl, hb⟩; refine ⟨_, rfl, ?_⟩; replace ba := nblk ba hb; replace HB := nbs HB hb; (try clear hb); obtain ⟨bJ, bK, bL, bM, bN⟩ := c5e ba; obtain ⟨bO, bP, bQ, bR, bS⟩ := z5_ ba) | ((with_reducible refine gate_callee (f := 26) rfl ?_); refine goesM (some 10) rfl rfl Tryz.func26 (by kernel_rfl) rfl #[.int .i64 a0_0] rfl ?_; (with_reducible refine (spec_l6Has.calls a0_0 bb _ A4.out).mono ?_); rintro e da ⟨rfl, hb⟩; refine ⟨_, rfl, ?_⟩; replace ba := nblk ba hb; replace HB := nbs HB hb; (try clear hb)))
        replace ba := Aside0.mk (blk_drew ba.out); replace HB := Aside0.mk (below_drew1 HB.out); refine start_ (n := 6) (S := fun w' => w'.cell? ⟨bm, 0, none⟩ = some (.int .i64 a0_0) ∧ w'.cell? ⟨bm, 1, none⟩ = some (.int .i64 a0_1) ∧ w'.cell? ⟨bm, 2, none⟩ = some (.int .i64 a0_2) ∧ w'.cell? ⟨bm, 3, none⟩ = some (.int .i64 a0_3) ∧ w'.cell? ⟨bm, 4, none⟩ = some (.int .i64 a0_4)) (ds := []) #[false, false, false, false, false, false] (by kernel_rfl) rfl rfl ⟨(blk_cell ba.out 0).trans rfl, (blk_cell ba.out 1).trans rfl, (blk_cell ba.out 2).trans rfl, (blk_cell ba.out 3).trans rfl, (blk_cell ba.out 4).trans rfl⟩ (fun hHeld => ?_); generalize da.drew = dr at ba HB hHeld ⊢; refine pure_ (i := 1) (N := some 12) (v := ?_) (a' := ?_) #[false, true, false, false, false, false] rfl rfl (by kernel_rfl) (fun _ _ _ h => h) (Or.inl ⟨by rfl, ?_⟩) ?_ ?_; rotate_left
        · intro w'
          go_simp; (with_reducible rfl)
        rotate_left
        · simp only [Act.put, List.setIfInBounds_toArray, List.set_cons_zero, List.set_cons_succ, i64_w, i32_w]
          rfl
        refine take_ (i := 2) (N := some 13) (v := ?_) (a' := ?_) #[false, true, true, false, false, false] rfl rfl (by kernel_rfl) (fun _ _ _ h => h) (Or.inl ⟨by rfl, ?_⟩) hHeld ?_ ?_; rotate_left
        · rintro w' ⟨s0, s1, s2, s3, s4⟩
          go_simp; (with_reducible rfl)
        rotate_left
        · simp only [Act.put, List.setIfInBounds_toArray, List.set_cons_zero, List.set_cons_succ, i64_w, i32_w]
          rfl
        refine one_ (i := 0) (N := some 11) #[true, true, true, false, false, false] rfl rfl (by kernel_rfl) (by decide) (fun K hK => ?_); refine goesR Tryz.func27 (by kernel_rfl) rfl #[] (by rfl) rfl rfl ?_; (with_reducible refine (spec_l7Names.calls  bc _ A5.out).mono ?_); rintro e dt ⟨du, rfl, bT, hb⟩; refine ⟨_, rfl, ?_⟩; have bs := Aside0.mk (Kd.R_lower bT (bsz HB)); replace ba := nblk ba hb; replace HB := nbs HB hb; (try clear hb); (try clear bT); obtain ⟨dv, dw, bU⟩ := Kd.R_slice bs.out; (first | subst bU | (injection bU with f1_ f2_ f3_; have f4_ := f1_.symm; have f5_ := f3_.symm; clear f1_ f2_ f3_; subst f4_; subst f5_)); have p240 : 0 ≤ (a0_0 : Int) := of_decide_eq_true (by first | (with_reducible assumption) | assumption); have q240 : a0_0 < (bc.length : Int) := of_decide_eq_true (by first | (with_reducible assumption) | assumption); obtain ⟨db, e240, bw⟩ := Kd.at_string (Kd.R_reads' bs.out).2.2 a0_0 p240 q240
        cases e240
        replace p240 := eq_true p240; replace q240 := eq_true q240; refine hK.out _ _ ⟨(blk_cell ba.out 0).trans rfl, (blk_cell ba.out 1).trans rfl, (blk_cell ba.out 2).trans rfl, (blk_cell ba.out 3).trans rfl, (blk_cell ba.out 4).trans rfl⟩ (fun hHeld => ?_); clear hK K; refine norm_ (a' := ?_) ?_ ?_; rotate_left
        · show Act.put _ (some 11) _ = _
          simp only [Act.put, List.setIfInBounds_toArray, List.set_cons_zero, List.set_cons_succ, i64_w, i32_w]; rfl
        refine pure_ (i := 3) (N := some 14) (v := ?_) (a' := ?_) #[true, true, true, true, false, false] rfl rfl (by kernel_rfl) (fun _ _ _ h => h) (Or.inl ⟨by rfl, ?_⟩) ?_ ?_; rotate_left
        · intro w'
          go_simp; (with_reducible rfl)
        rotate_left
        · simp only [Act.put, List.setIfInBounds_toArray, List.set_cons_zero, List.set_cons_succ, i64_w, i32_w]
          rfl
        refine one_ (i := 4) (N := some 15) #[true, true, true, true, true, false] rfl rfl (by kernel_rfl) (by decide) (fun K hK => ?_); refine ev_step (v := .string (rdOf ByteArray.empty bc a0_0)) (w1 := dt) ?hw ?hrun ?_; (case hw => rfl); (case hrun => go_simp; try rfl); refine hK.out _ _ ⟨(blk_cell ba.out 0).trans rfl, (blk_cell ba.out 1).trans rfl, (blk_cell ba.out 2).trans rfl, (blk_cell ba.out 3).trans rfl, (blk_cell ba.out 4).trans rfl⟩ (fun hHeld => ?_); clear hK K; refine norm_ (a' := ?_) ?_ ?_; rotate_left
        ·show Act.put _ (some 15) _ = _
         simp only [Act.put, List.setIfInBounds_toArray, List.set_cons_zero, List.set_cons_succ, i64_w, i32_w]; rfl
        refine pure_ (i := 5) (N := some 4) (v := ?_) (a' := ?_) #[true, true, true, true, true, true] rfl rfl (by kernel_rfl) (fun _ _ _ h => h) (Or.inl ⟨by rfl, ?_⟩) ?_ ?_; rotate_left
        · intro w'
          go_simp; (with_reducible rfl)
        rotate_left
        · simp only [Act.put, List.setIfInBounds_toArray, List.set_cons_zero, List.set_cons_succ, i64_w, i32_w]
          rfl
        refine done_ (by kernel_rfl) ?_
        go_upto_if 18 with (fail)
        go_cut [4] (fun v4 wc => ∃ (kq : Nat) (bi : ByteArray), v4 = .string bi ∧ Aside0 (spec_InsText.j0 kq bb bi a0_0 a0_1 a0_2 a0_3 a0_4 = some r) ∧ Aside0 (kq ≤ k) ∧ Aside0 (wc.heap[bm]? = some (.cells #[.int .i64 a0_0, .int .i64 a0_1, .int .i64 a0_2, .int .i64 a0_3, .int .i64 a0_4] 25 (0, 0))) ∧ Aside0 (Below w.heap.size w wc))
        case first =>
          have H := bv.out; clear bv
          by_cases c17 : (Go.bits .and .i64 bb 1) = 0
          · rw [if_pos c17] at H
            have c17b0 : ((Go.bits .and .i64 bb 1) == 0) = true := beq_iff_eq.mpr c17; have c17b1 : ((Go.bits .and .i64 bb 1) != 0) = false := bne_eq_false_iff_eq.mpr c17; clear c17; (first | rw [c17b0] | (simp only [i64_w, i32_w]; rw [c17b0]) | skip); have H' := Aside0.mk H; clear H; go_wp2
            go_meet
            case rel => exact ⟨_, (rdOf ByteArray.empty bc a0_0), (by first | rfl | (simp; done) | (simp [*]; done)), H', ⟨by first | omega | exact Nat.le_refl _⟩, ⟨nb ba⟩, ⟨nbe HB⟩⟩
          · rw [if_neg c17] at H
            have c17b0 : ((Go.bits .and .i64 bb 1) == 0) = false := beq_eq_false_iff_ne.mpr c17; have c17b1 : ((Go.bits .and .i64 bb 1) != 0) = true := bne_iff_ne.mpr c17; (first | rw [c17b0] | (simp only [i64_w, i32_w]; rw [c17b0]) | skip)
            by_cases c18 : (rdOf ByteArray.empty bc a0_0).size + 2 ≤ 9223372036854775807
            · rw [if_pos c18] at H
              have c18b0 := eq_true c18; have c18b1 : decide ((rdOf ByteArray.empty bc a0_0).size + 2 ≤ 9223372036854775807) = true := decide_eq_true c18
              try have c18b2 : (9223372036854775807 < (rdOf ByteArray.empty bc a0_0).size + 2) = False := eq_false (Nat.not_lt.2 c18)
              replace H := Option.bind_eq_some_iff.mp H; obtain ⟨bf, A190, H⟩ := H; replace H : (if ((rdOf ByteArray.empty bc a0_0) ++ (⟨#[32, 114]⟩ : ByteArray)).size + bf.size ≤ 9223372036854775807 then (spec_InsText.j0 k bb (((rdOf ByteArray.empty bc a0_0) ++ (⟨#[32, 114]⟩ : ByteArray)) ++ bf) a0_0 a0_1 a0_2 a0_3 a0_4) else (none)) = some r := H; have A19 := Aside0.mk A190; clear A190
              by_cases c20 : ((rdOf ByteArray.empty bc a0_0) ++ (⟨#[32, 114]⟩ : ByteArray)).size + bf.size ≤ 9223372036854775807
              · rw [if_pos c20] at H
                have c20b0 := eq_true c20; have c20b1 : decide (((rdOf ByteArray.empty bc a0_0) ++ (⟨#[32, 114]⟩ : ByteArray)).size + bf.size ≤ 9223372036854775807) = true := decide_eq_true c20
                try have c20b2 : (9223372036854775807 < ((rdOf ByteArray.empty bc a0_0) ++ (⟨#[32, 114]⟩ : ByteArray)).size + bf.size) = False := eq_false (Nat.not_lt.2 c20)
                have c20b3 : (9223372036854775807 < (rdOf ByteArray.empty bc a0_0).size + 2 + bf.size) = False := eq_false (Nat.not_lt.2 (by have h_ := c20; simp only [ByteArray.size_append] at h_; exact h_)); have H' := Aside0.mk H; clear H; obtain ⟨bV, bW, bX, bY, bZ⟩ := c5e ba; obtain ⟨b0, b1, b2, b3, b4⟩ := z5_ ba
                go_wp2_with (first | ((with_reducible refine gate_callee (f := 28) rfl ?_); refine goesM (some 23) rfl rfl Tryz.func28 (by kernel_rfl) rfl #[.int .i64 a0_1] rfl ?_; (with_reducible refine (spec_l7Digits.calls k a0_1 bf _ A19.out).mono ?_); rintro e dx ⟨rfl, hb⟩; refine ⟨_, rfl, ?_⟩; replace bs := nR bs hb; replace ba := nblk ba hb; replace HB := nbs HB hb; (try clear hb)))
                go_meet
                case rel => exact ⟨_, (((rdOf ByteArray.empty bc a0_0) ++ (⟨#[32, 114]⟩ : ByteArray)) ++ bf), (by first | rfl | (simp; done) | (simp [*]; done)), H', ⟨by first | omega | exact Nat.le_refl _⟩, ⟨nb ba⟩, ⟨nbe HB⟩⟩
              · rw [if_neg c20] at H
                exact absurd H (by simp)
            · rw [if_neg c18] at H
              exact absurd H (by simp)
        case rest =>
          clear bv; try clear c1
          try clear c2
          try clear p2
          try clear q2
          try clear dc
          try clear c3
          try clear c6
          try clear c6b0
          try clear c7
          try clear c7b0
          try clear c17
          try clear c17b0
          try clear c17b1
          try clear c18
          try clear c18b0
          try clear c18b1
          try clear c18b2
          try clear c20
          try clear c20b0
          try clear c20b1
          try clear c20b2
          try clear bz
          try clear bA
          try clear bB
          try clear bC
          try clear bD
          try clear bJ
          try clear bK
          try clear bL
          try clear bM
          try clear bN
          try clear bV
          try clear bW
          try clear bX
          try clear bY
          try clear bZ
          try clear bE
          try clear bF
          try clear bG
          try clear bH
          try clear bI
          try clear bO
          try clear bP
          try clear bQ
          try clear bR
          try clear bS
          try clear b0
          try clear b1
          try clear b2
          try clear b3
          try clear b4
          try clear bw
          try clear p240
          try clear q240
          obtain ⟨kq, bi, rfl, HA, b5, ba, HB⟩ := hcut
          cases kq with
          | zero => exact absurd HA.out (by simp [spec_InsText.j0])
          | succ kj7 =>
            have H := HA.out; clear HA; simp only [spec_InsText.j0] at H; have bx := Aside0.mk H; clear H
            go_upto_if 27 with (fail)
            go_cut [4] (fun v4 wc => ∃ (kq : Nat) (bd : ByteArray), v4 = .string bd ∧ Aside0 (spec_InsText.j1 kq bb bd a0_0 a0_1 a0_2 a0_3 a0_4 = some r) ∧ Aside0 (kq ≤ kj7) ∧ Aside0 (wc.heap[bm]? = some (.cells #[.int .i64 a0_0, .int .i64 a0_1, .int .i64 a0_2, .int .i64 a0_3, .int .i64 a0_4] 25 (0, 0))) ∧ Aside0 (Below w.heap.size w wc))
            case first =>
              have H := bx.out; clear bx
              by_cases c24 : (Go.bits .and .i64 bb 2) = 0
              · rw [if_pos c24] at H
                have c24b0 : ((Go.bits .and .i64 bb 2) == 0) = true := beq_iff_eq.mpr c24; have c24b1 : ((Go.bits .and .i64 bb 2) != 0) = false := bne_eq_false_iff_eq.mpr c24; clear c24; (first | rw [c24b0] | (simp only [i64_w, i32_w]; rw [c24b0]) | skip); have H' := Aside0.mk H; clear H; go_wp2
                go_meet
                case rel => exact ⟨_, (bi), (by first | rfl | (simp; done) | (simp [*]; done)), H', ⟨by have := b5.out; first | omega | exact Nat.le_refl _⟩, ⟨nb ba⟩, ⟨nbe HB⟩⟩
              · rw [if_neg c24] at H
                have c24b0 : ((Go.bits .and .i64 bb 2) == 0) = false := beq_eq_false_iff_ne.mpr c24; have c24b1 : ((Go.bits .and .i64 bb 2) != 0) = true := bne_iff_ne.mpr c24; (first | rw [c24b0] | (simp only [i64_w, i32_w]; rw [c24b0]) | skip)
                by_cases c25 : bi.size + 2 ≤ 9223372036854775807
                · rw [if_pos c25] at H
                  have c25b0 := eq_true c25; have c25b1 : decide (bi.size + 2 ≤ 9223372036854775807) = true := decide_eq_true c25
                  try have c25b2 : (9223372036854775807 < bi.size + 2) = False := eq_false (Nat.not_lt.2 c25)
                  replace H := Option.bind_eq_some_iff.mp H; obtain ⟨bk, A260, H⟩ := H; replace H : (if (bi ++ (⟨#[32, 114]⟩ : ByteArray)).size + bk.size ≤ 9223372036854775807 then (spec_InsText.j1 kj7 bb ((bi ++ (⟨#[32, 114]⟩ : ByteArray)) ++ bk) a0_0 a0_1 a0_2 a0_3 a0_4) else (none)) = some r := H; have A26 := Aside0.mk A260; clear A260
                  by_cases c27 : (bi ++ (⟨#[32, 114]⟩ : ByteArray)).size + bk.size ≤ 9223372036854775807
                  · rw [if_pos c27] at H
                    have c27b0 := eq_true c27; have c27b1 : decide ((bi ++ (⟨#[32, 114]⟩ : ByteArray)).size + bk.size ≤ 9223372036854775807) = true := decide_eq_true c27
                    try have c27b2 : (9223372036854775807 < (bi ++ (⟨#[32, 114]⟩ : ByteArray)).size + bk.size) = False := eq_false (Nat.not_lt.2 c27)
                    have c27b3 : (9223372036854775807 < bi.size + 2 + bk.size) = False := eq_false (Nat.not_lt.2 (by have h_ := c27; simp only [ByteArray.size_append] at h_; exact h_)); have H' := Aside0.mk H; clear H; obtain ⟨dd, de, df, dg, dh⟩ := c5e ba; obtain ⟨di, dj, dk, dl, dm⟩ := z5_ ba
                    go_wp2_with (first | ((with_reducible refine gate_callee (f := 28) rfl ?_); refine goesM (some 32) rfl rfl Tryz.func28 (by kernel_rfl) rfl #[.int .i64 a0_2] rfl ?_; (with_reducible refine (spec_l7Digits.calls kj7 a0_2 bk _ A26.out).mono ?_); rintro e dy ⟨rfl, hb⟩; refine ⟨_, rfl, ?_⟩; replace ba := nblk ba hb; replace HB := nbs HB hb; (try clear hb)))
                    go_meet
                    case rel => exact ⟨_, ((bi ++ (⟨#[32, 114]⟩ : ByteArray)) ++ bk), (by first | rfl | (simp; done) | (simp [*]; done)), H', ⟨by have := b5.out; first | omega | exact Nat.le_refl _⟩, ⟨nb ba⟩, ⟨nbe HB⟩⟩
                  · rw [if_neg c27] at H
                    exact absurd H (by simp)
                · rw [if_neg c25] at H
                  exact absurd H (by simp)
            case rest =>
              clear bx; try clear c1
              try clear c2
              try clear p2
              try clear q2
              try clear dc
              try clear c3
              try clear c6
              try clear c6b0
              try clear c7
              try clear c7b0
              try clear c17
              try clear c17b0
              try clear c17b1
              try clear c18
              try clear c18b0
              try clear c18b1
              try clear c18b2
              try clear c20
              try clear c20b0
              try clear c20b1
              try clear c20b2
              try clear c24
              try clear c24b0
              try clear c24b1
              try clear p24
              try clear q24
              try clear dz
              try clear c25
              try clear c25b0
              try clear c25b1
              try clear c25b2
              try clear c26
              try clear c27
              try clear c27b0
              try clear c27b1
              try clear c27b2
              try clear c28
              try clear bz
              try clear bA
              try clear bB
              try clear bC
              try clear bD
              try clear bJ
              try clear bK
              try clear bL
              try clear bM
              try clear bN
              try clear bV
              try clear bW
              try clear bX
              try clear bY
              try clear bZ
              try clear dd
              try clear de
              try clear df
              try clear dg
              try clear dh
              try clear bE
              try clear bF
              try clear bG
              try clear bH
              try clear bI
              try clear bO
              try clear bP
              try clear bQ
              try clear bR
              try clear bS
              try clear b0
              try clear b1
              try clear b2
              try clear b3
              try clear b4
              try clear di
              try clear dj
              try clear dk
              try clear dl
              try clear dm
              try clear bw
              try clear p2
              try clear p240
              try clear q2
              try clear q240
              obtain ⟨kq, bd, rfl, HA, dA, ba, HB⟩ := hcut
              cases kq with
              | zero => exact absurd HA.out (by simp [spec_InsText.j1])
              | succ kj22 =>
                have H := HA.out; clear HA; simp only [spec_InsText.j1] at H
                by_cases c30 : (Go.bits .and .i64 bb 4) = 0
                · rw [if_pos c30] at H
                  have c30b0 : ((Go.bits .and .i64 bb 4) == 0) = true := beq_iff_eq.mpr c30; have c30b1 : ((Go.bits .and .i64 bb 4) != 0) = false := bne_eq_false_iff_eq.mpr c30; clear c30
                  by_cases c31 : (Go.bits .and .i64 bb 8) = 0
                  · rw [if_pos c31] at H
                    have c31b0 : ((Go.bits .and .i64 bb 8) == 0) = true := beq_iff_eq.mpr c31; have c31b1 : ((Go.bits .and .i64 bb 8) != 0) = false := bne_eq_false_iff_eq.mpr c31; clear c31; obtain rfl := Option.some.inj H; go_wp2
                    go_ret
                    exact ⟨er_, nbe HB⟩
                  · rw [if_neg c31] at H
                    have c31b0 : ((Go.bits .and .i64 bb 8) == 0) = false := beq_eq_false_iff_ne.mpr c31; have c31b1 : ((Go.bits .and .i64 bb 8) != 0) = true := bne_iff_ne.mpr c31
                    by_cases c32 : bd.size + 1 ≤ 9223372036854775807
                    · rw [if_pos c32] at H
                      have c32b0 := eq_true c32; have c32b1 : decide (bd.size + 1 ≤ 9223372036854775807) = true := decide_eq_true c32
                      try have c32b2 : (9223372036854775807 < bd.size + 1) = False := eq_false (Nat.not_lt.2 c32)
                      replace H := Option.bind_eq_some_iff.mp H; obtain ⟨bl, A330, H⟩ := H; replace H : (if (bd ++ (⟨#[32]⟩ : ByteArray)).size + bl.size ≤ 9223372036854775807 then (some ((bd ++ (⟨#[32]⟩ : ByteArray)) ++ bl)) else (none)) = some r := H; have A33 := Aside0.mk A330; clear A330
                      by_cases c34 : (bd ++ (⟨#[32]⟩ : ByteArray)).size + bl.size ≤ 9223372036854775807
                      · rw [if_pos c34] at H
                        have c34b0 := eq_true c34; have c34b1 : decide ((bd ++ (⟨#[32]⟩ : ByteArray)).size + bl.size ≤ 9223372036854775807) = true := decide_eq_true c34
                        try have c34b2 : (9223372036854775807 < (bd ++ (⟨#[32]⟩ : ByteArray)).size + bl.size) = False := eq_false (Nat.not_lt.2 c34)
                        have c34b3 : (9223372036854775807 < bd.size + 1 + bl.size) = False := eq_false (Nat.not_lt.2 (by have h_ := c34; simp only [ByteArray.size_append] at h_; exact h_)); obtain rfl := Option.some.inj H; obtain ⟨dB, dC, dD, dE, dF⟩ := c5e ba; obtain ⟨dG, dH, dI, dJ, dK⟩ := z5_ ba
                        go_wp2_with (first | ((with_reducible refine gate_callee (f := 28) rfl ?_); refine goesM (some 50) rfl rfl Tryz.func28 (by kernel_rfl) rfl #[.int .i64 a0_4] rfl ?_; (with_reducible refine (spec_l7Digits.calls kj22 a0_4 bl _ A33.out).mono ?_); rintro e dL ⟨rfl, hb⟩; refine ⟨_, rfl, ?_⟩; replace ba := nblk ba hb; replace HB := nbs HB hb; (try clear hb)))
                        go_ret
                        exact ⟨er_, nbe HB⟩
                      · rw [if_neg c34] at H
                        exact absurd H (by simp)
                    · rw [if_neg c32] at H
                      exact absurd H (by simp)
                · rw [if_neg c30] at H
                  have c30b0 : ((Go.bits .and .i64 bb 4) == 0) = false := beq_eq_false_iff_ne.mpr c30; have c30b1 : ((Go.bits .and .i64 bb 4) != 0) = true := bne_iff_ne.mpr c30
                  by_cases c37 : bd.size + 2 ≤ 9223372036854775807
                  · rw [if_pos c37] at H
                    have c37b0 := eq_true c37; have c37b1 : decide (bd.size + 2 ≤ 9223372036854775807) = true := decide_eq_true c37
                    try have c37b2 : (9223372036854775807 < bd.size + 2) = False := eq_false (Nat.not_lt.2 c37)
                    replace H := Option.bind_eq_some_iff.mp H; obtain ⟨bg, A380, H⟩ := H; replace H : (if (bd ++ (⟨#[32, 114]⟩ : ByteArray)).size + bg.size ≤ 9223372036854775807 then (if (Go.bits .and .i64 bb 8) = 0 then (some ((bd ++ (⟨#[32, 114]⟩ : ByteArray)) ++ bg)) else (if ((bd ++ (⟨#[32, 114]⟩ : ByteArray)) ++ bg).size + 1 ≤ 9223372036854775807 then ((spec_l7Digits.f kj22 a0_4).bind fun bj => (if (((bd ++ (⟨#[32, 114]⟩ : ByteArray)) ++ bg) ++ (⟨#[32]⟩ : ByteArray)).size + bj.size ≤ 9223372036854775807 then (some ((((bd ++ (⟨#[32, 114]⟩ : ByteArray)) ++ bg) ++ (⟨#[32]⟩ : ByteArray)) ++ bj)) else (none))) else (none))) else (none)) = some r := H; have A38 := Aside0.mk A380; clear A380
                    by_cases c39 : (bd ++ (⟨#[32, 114]⟩ : ByteArray)).size + bg.size ≤ 9223372036854775807
                    · rw [if_pos c39] at H
                      have c39b0 := eq_true c39; have c39b1 : decide ((bd ++ (⟨#[32, 114]⟩ : ByteArray)).size + bg.size ≤ 9223372036854775807) = true := decide_eq_true c39
                      try have c39b2 : (9223372036854775807 < (bd ++ (⟨#[32, 114]⟩ : ByteArray)).size + bg.size) = False := eq_false (Nat.not_lt.2 c39)
                      have c39b3 : (9223372036854775807 < bd.size + 2 + bg.size) = False := eq_false (Nat.not_lt.2 (by have h_ := c39; simp only [ByteArray.size_append] at h_; exact h_))
                      by_cases c40 : (Go.bits .and .i64 bb 8) = 0
                      · rw [if_pos c40] at H
                        have c40b0 : ((Go.bits .and .i64 bb 8) == 0) = true := beq_iff_eq.mpr c40; have c40b1 : ((Go.bits .and .i64 bb 8) != 0) = false := bne_eq_false_iff_eq.mpr c40; clear c40; obtain rfl := Option.some.inj H; obtain ⟨dM, dN, dO, dP, dQ⟩ := c5e ba; obtain ⟨dR, dS, dT, dU, dV⟩ := z5_ ba
                        go_wp2_with (first | ((with_reducible refine gate_callee (f := 28) rfl ?_); refine goesM (some 41) rfl rfl Tryz.func28 (by kernel_rfl) rfl #[.int .i64 a0_3] rfl ?_; (with_reducible refine (spec_l7Digits.calls kj22 a0_3 bg _ A38.out).mono ?_); rintro e dW ⟨rfl, hb⟩; refine ⟨_, rfl, ?_⟩; replace ba := nblk ba hb; replace HB := nbs HB hb; (try clear hb)))
                        go_ret
                        exact ⟨er_, nbe HB⟩
                      · rw [if_neg c40] at H
                        have c40b0 : ((Go.bits .and .i64 bb 8) == 0) = false := beq_eq_false_iff_ne.mpr c40; have c40b1 : ((Go.bits .and .i64 bb 8) != 0) = true := bne_iff_ne.mpr c40
                        by_cases c43 : ((bd ++ (⟨#[32, 114]⟩ : ByteArray)) ++ bg).size + 1 ≤ 9223372036854775807
                        · rw [if_pos c43] at H
                          have c43b0 := eq_true c43; have c43b1 : decide (((bd ++ (⟨#[32, 114]⟩ : ByteArray)) ++ bg).size + 1 ≤ 9223372036854775807) = true := decide_eq_true c43
                          try have c43b2 : (9223372036854775807 < ((bd ++ (⟨#[32, 114]⟩ : ByteArray)) ++ bg).size + 1) = False := eq_false (Nat.not_lt.2 c43)
                          have c43b3 : (9223372036854775807 < bd.size + 2 + bg.size + 1) = False := eq_false (Nat.not_lt.2 (by have h_ := c43; simp only [ByteArray.size_append] at h_; exact h_)); replace H := Option.bind_eq_some_iff.mp H; obtain ⟨bj, A440, H⟩ := H; replace H : (if (((bd ++ (⟨#[32, 114]⟩ : ByteArray)) ++ bg) ++ (⟨#[32]⟩ : ByteArray)).size + bj.size ≤ 9223372036854775807 then (some ((((bd ++ (⟨#[32, 114]⟩ : ByteArray)) ++ bg) ++ (⟨#[32]⟩ : ByteArray)) ++ bj)) else (none)) = some r := H; have A44 := Aside0.mk A440; clear A440
                          by_cases c45 : (((bd ++ (⟨#[32, 114]⟩ : ByteArray)) ++ bg) ++ (⟨#[32]⟩ : ByteArray)).size + bj.size ≤ 9223372036854775807
                          · rw [if_pos c45] at H
                            have c45b0 := eq_true c45; have c45b1 : decide ((((bd ++ (⟨#[32, 114]⟩ : ByteArray)) ++ bg) ++ (⟨#[32]⟩ : ByteArray)).size + bj.size ≤ 9223372036854775807) = true := decide_eq_true c45
                            try have c45b2 : (9223372036854775807 < (((bd ++ (⟨#[32, 114]⟩ : ByteArray)) ++ bg) ++ (⟨#[32]⟩ : ByteArray)).size + bj.size) = False := eq_false (Nat.not_lt.2 c45)
                            have c45b3 : (9223372036854775807 < bd.size + 2 + bg.size + 1 + bj.size) = False := eq_false (Nat.not_lt.2 (by have h_ := c45; simp only [ByteArray.size_append] at h_; exact h_)); obtain rfl := Option.some.inj H; obtain ⟨dX, dY, dZ, d0, d1⟩ := c5e ba; obtain ⟨d2, d3, d4, d5, d6⟩ := z5_ ba
                            go_wp2_with (first | ((with_reducible refine gate_callee (f := 28) rfl ?_); refine goesM (some 41) rfl rfl Tryz.func28 (by kernel_rfl) rfl #[.int .i64 a0_3] rfl ?_; (with_reducible refine (spec_l7Digits.calls kj22 a0_3 bg _ A38.out).mono ?_); rintro e d7 ⟨rfl, hb⟩; refine ⟨_, rfl, ?_⟩; replace ba := nblk ba hb; replace HB := nbs HB hb; (try clear hb); obtain ⟨d8, d9, ea, eb, ec⟩ := c5e ba; obtain ⟨ed, ee, ef, eg, eh⟩ := z5_ ba) | ((with_reducible refine gate_callee (f := 28) rfl ?_); refine goesM (some 50) rfl rfl Tryz.func28 (by kernel_rfl) rfl #[.int .i64 a0_4] rfl ?_; (with_reducible refine (spec_l7Digits.calls kj22 a0_4 bj _ A44.out).mono ?_); rintro e ei ⟨rfl, hb⟩; refine ⟨_, rfl, ?_⟩; replace ba := nblk ba hb; replace HB := nbs HB hb; (try clear hb)))
                            go_ret
                            exact ⟨er_, nbe HB⟩
                          · rw [if_neg c45] at H
                            exact absurd H (by simp)
                        · rw [if_neg c43] at H
                          exact absurd H (by simp)
                    · rw [if_neg c39] at H
                      exact absurd H (by simp)
                  · rw [if_neg c37] at H
                    exact absurd H (by simp)
      · rw [if_neg c7] at H
        exact absurd H (by simp)
    · rw [if_neg c6] at H
      exact absurd H (by simp)
  · replace c3 := Bool.eq_false_iff.mpr c3
    subst c3; have H1 : (some (⟨#[]⟩ : ByteArray)) = some r := by rw [if_neg (show ¬ (false = true) by decide)] at H; exact H
    clear H; have H := H1; clear H1; obtain rfl := Option.some.inj H
    go_enter Tryz.func7, Tryz.ntmps7
    go_wp2_with (first | ((with_reducible refine gate_dst (N := 1) rfl ?_); refine bxe 1 #[.int .i64 a0_0, .int .i64 a0_1, .int .i64 a0_2, .int .i64 a0_3, .int .i64 a0_4] 25 ?_; intro bm hg ej hbox hb; have ba := hbox; have b8 := nge HB hg; have b9 := nge HB hg; replace HB := nbs HB hb; clear hb hbox hg; obtain ⟨ek, el, em, en, eo⟩ := c5e ba; obtain ⟨ep, er, es, et, eu⟩ := z5_ ba) | ((with_reducible refine gate_callee (f := 25) rfl ?_); refine goesM (some 6) rfl rfl Tryz.func25 (by kernel_rfl) rfl #[.agg #[.int .i64 a0_0, .int .i64 a0_1, .int .i64 a0_2, .int .i64 a0_3, .int .i64 a0_4]] rfl ?_; (with_reducible refine (spec_InsOk.calls a0_0 a0_1 a0_2 a0_3 a0_4 false _ A2.out).mono ?_); rintro e ew ⟨rfl, hb⟩; refine ⟨_, rfl, ?_⟩; replace ba := nblk ba hb; replace HB := nbs HB hb; (try clear hb)))
    go_ret
    exact ⟨er_, nbe HB⟩

-- NOT PRINTED: function 79 (utf8_RuneCountInString)

-- NOT PRINTED: function 94 (utf8_decodeRuneInStringSlow)

-- NOT PRINTED: function 80 (utf8_DecodeRuneInString)

-- NOT PRINTED: function 64 (strings_explode)

-- NOT PRINTED: function 97 (bytealg_IndexByteString)

-- NOT PRINTED: function 85 (stringslite_IndexByte)

-- NOT PRINTED: function 86 (bytealg_IndexString)

-- NOT PRINTED: function 87 (bytealg_Cutover)

-- NOT PRINTED: function 98 (bytealg_hashStr_string)

-- NOT PRINTED: function 88 (bytealg_IndexRabinKarp_string)

-- NOT PRINTED: function 74 (stringslite_Index)

-- NOT PRINTED: function 66 (strings_Index)

-- NOT PRINTED: function 81 (bytealg_CountString)

-- NOT PRINTED: function 65 (strings_Count)

-- NOT PRINTED: function 53 (strings_genSplit)

/-! ### strings_Split: function 31, by the shelf's contract -/
def strings_Split.f (s sep : ByteArray) : Option (List ByteArray) := if s.size < 4294967281 then (if 1 ≤ sep.size then (if Lib.countB s sep + 1 ≤ 9223372036854775807 then some (Lib.splitB sep 0 (Lib.countB s sep) s) else none) else none) else none
theorem strings_Split.row (W : World) (base : Nat) (xs : List ByteArray) (hb : base ≤ W.heap.size) (hm : xs.length ≤ 9223372036854775807) : Kd.R Kd.string 9 (W.alloc (.cells (xs.map Value.string).toArray 9)) base (fun _ => True) (.slice (some ⟨W.heap.size, 0, none⟩) xs.length xs.length) xs := by
  have h2 := World.ownsRow_lit (base := base) (e := 9) (size := 1) W (xs.map Value.string).toArray xs.length hb (by simpa [maxLen] using hm) (by simp); refine ⟨fun _ _ => trivial, xs.map Value.string, (by exact h2), ?_⟩
  have hr : ∀ (l : List ByteArray), Reps (Kd.string.M (W.alloc (.cells (xs.map Value.string).toArray 9)) base (fun k => True ∧ some k ≠ (Value.slice (some ⟨W.heap.size, 0, none⟩) xs.length xs.length).ownBlock)) Kd.string.sz l (l.map Value.string) := by
    intro l
    induction l with
    | nil => exact Reps.none _ _
    | cons a l ih => exact Reps.one rfl ih
  exact hr xs
theorem strings_Split.calls (s sep : ByteArray) (r : List ByteArray) (w : World) (h : strings_Split.f s sep = some r) (hT_ : TabW w) :
  Calls Tryz.prog 31 #[.string s, .string sep] w fun e w' => ∃ v0_ : Value, e = .returned (v0_) ∧ Kd.R Kd.string 9 w' w.heap.size (fun _ => True) v0_ r ∧ Below w.heap.size w w' := by
 unfold strings_Split.f at h
 by_cases h0 : s.size < 4294967281
 · rw [if_pos h0] at h
   by_cases h1 : 1 ≤ sep.size
   · rw [if_pos h1] at h
     by_cases h2 : Lib.countB s sep + 1 ≤ 9223372036854775807
     · rw [if_pos h2] at h
       obtain rfl := Option.some.inj h; obtain ⟨m, hm⟩ := hT_.2.1; refine (Tryz.strings_Split s sep m w h0 hm h1).mono ?_; rintro e w' ⟨rfl, rfl⟩; have hl : (Lib.splitB sep 0 (Lib.countB s sep) s).length = Lib.countB s sep + 1 := Lib.splitB_all sep h1 0 _ s rfl; refine ⟨_, rfl, ?_, below_alloc (Below.refl _ _) _⟩; rw [← hl]; exact strings_Split.row w _ _ (Nat.le_refl _) (by rw [hl]; exact h2)
     · rw [if_neg h2] at h
       exact absurd h (by simp)
   · rw [if_neg h1] at h
     exact absurd h (by simp)
 · rw [if_neg h0] at h
   exact absurd h (by simp)

/-! ### slices_Index_string_string: function 32 -/
def slices_Index_string_string.l0 : Nat → List ByteArray → ByteArray → Int → Int → Option (Int)
  | 0, _, _, _, _ => none
  | k + 1, x0, x1, x7, x8 => if x8 < x7 then (if 0 ≤ x8 then (if x8 < (x0.length : Int) then (if x1.toList = (rdOf ByteArray.empty x0 x8).toList then (some x8) else (slices_Index_string_string.l0 k x0 x1 x7 (wrap64 (x8 + 1)))) else (none)) else (none)) else (some (-1))
def slices_Index_string_string.f (k : Nat) (l0 : List ByteArray) (a1 : ByteArray) : Option (Int) := slices_Index_string_string.l0 k l0 a1 (l0.length : Int) 0
theorem slices_Index_string_string.mono_l : ∀ k, (∀ y0 y1 y2 y3, LeO (slices_Index_string_string.l0 k y0 y1 y2 y3) (slices_Index_string_string.l0 (k + 1) y0 y1 y2 y3))
  | 0 => fun _ _ _ _ r h => by simp [slices_Index_string_string.l0] at h
  | k + 1 => by
    have ih0 := slices_Index_string_string.mono_l k
    · intro y0 y1 y2 y3
      unfold slices_Index_string_string.l0
      repeat' first
      | (with_reducible exact ih0 _ _ _ _)
      | (with_reducible exact LeO.refl _)
      | (with_reducible exact LeO.none _)
      | (with_reducible refine LeO.ite ?_ ?_)
      | (with_reducible refine LeO.bind ?_ (fun _ => ?_))
      | exact ih0 _ _ _ _
      | exact LeO.none _
      | refine LeO.ite ?_ ?_
      | refine LeO.bind ?_ (fun _ => ?_)
theorem slices_Index_string_string.mono : ∀ a0 a1 k, LeO (slices_Index_string_string.f k a0 a1) (slices_Index_string_string.f (k + 1) a0 a1) := by
  intro a0 a1 k; have ih0 := slices_Index_string_string.mono_l k
  unfold slices_Index_string_string.f
  repeat' first
      | (with_reducible exact ih0 _ _ _ _)
      | (with_reducible exact LeO.refl _)
      | (with_reducible exact LeO.none _)
      | (with_reducible refine LeO.ite ?_ ?_)
      | (with_reducible refine LeO.bind ?_ (fun _ => ?_))
      | exact ih0 _ _ _ _
      | exact LeO.none _
      | refine LeO.ite ?_ ?_
      | refine LeO.bind ?_ (fun _ => ?_)
set_option maxHeartbeats 8000000 in
set_option maxRecDepth 100000 in
theorem slices_Index_string_string.calls (k : Nat) (A0 : Option Addr) (c0 : Nat) (l0 : List ByteArray) (a1 : ByteArray) (r : Int) (w : World) (hr0 : Kd.C Kd.string w A0 l0.length l0) (hc0 : l0.length ≤ c0) (h : slices_Index_string_string.f k l0 a1 = some r) :
    Calls Tryz.prog 32 #[.slice A0 l0.length c0, .string a1] w fun e w' => e = .returned (.int .i64 r) ∧ Drawn0 w w' := by
  have b6 := Aside0.mk hr0; have ex := Aside0.mk hc0; clear hr0 hc0; have H : (slices_Index_string_string.l0 k l0 a1 (l0.length : Int) 0) = some r := h; clear h; have H' := Aside0.mk H; clear H
  go_enter Tryz.func32, Tryz.ntmps32
  go_wp2
  go_loopg [8] k (fun kq v8 w' => ∃ (bh : Int), v8 = .int .i64 bh ∧ Aside0 (slices_Index_string_string.l0 kq l0 a1 (l0.length : Int) bh = some r) ∧ Aside0 (kq ≤ k) ∧ Drawn0 w w')
  case atStart => exact ⟨(0), (by first | rfl | (simp; done) | (simp [*]; done)), H', ⟨Nat.le_refl _⟩, by repeat (first | exact Drawn0.refl _ | apply Drawn0.step)⟩
  case round =>
    clear H'; try clear p2
    obtain ⟨bh, rfl, HA, b7, ⟨m1, rfl⟩⟩ := hrel
    cases gk with
    | zero => exact absurd HA.out (by simp [slices_Index_string_string.l0])
    | succ k1 =>
      have H := HA.out; clear HA; simp only [slices_Index_string_string.l0] at H
      by_cases c3 : bh < (l0.length : Int)
      · rw [if_pos c3] at H
        have c3b0 : decide (bh < (l0.length : Int)) = true := decide_eq_true c3; clear c3
        by_cases c4 : 0 ≤ bh
        · rw [if_pos c4] at H
          have c4b0 : decide (0 ≤ bh) = true := decide_eq_true c4; clear c4
          by_cases c5 : bh < (l0.length : Int)
          · rw [if_pos c5] at H
            have c5b0 : decide (bh < (l0.length : Int)) = true := decide_eq_true c5; clear c5
            by_cases c6 : a1.toList = (rdOf ByteArray.empty l0 bh).toList
            · rw [if_pos c6] at H
              have c6b0 : (a1.toList == (rdOf ByteArray.empty l0 bh).toList) = true := beq_iff_eq.mpr c6; have c6b1 : (a1.toList != (rdOf ByteArray.empty l0 bh).toList) = false := bne_eq_false_iff_eq.mpr c6; clear c6; obtain rfl := Option.some.inj H; have p246 : 0 ≤ (bh : Int) := of_decide_eq_true (by first | (with_reducible assumption) | assumption); have q246 : bh < (l0.length : Int) := of_decide_eq_true (by first | (with_reducible assumption) | assumption); obtain ⟨dn, e246, dp⟩ := Kd.at_string b6.out bh p246 q246
              cases e246
              replace p246 := eq_true p246; replace q246 := eq_true q246; go_wp2
              go_ret
              exact ⟨by first | rfl | (simp; done) | (simp [*]; done), by repeat (first | exact Drawn0.refl _ | apply Drawn0.step)⟩
            · rw [if_neg c6] at H
              have c6b0 : (a1.toList == (rdOf ByteArray.empty l0 bh).toList) = false := beq_eq_false_iff_ne.mpr c6; have c6b1 : (a1.toList != (rdOf ByteArray.empty l0 bh).toList) = true := bne_iff_ne.mpr c6; have H' := Aside0.mk H; clear H; have p246 : 0 ≤ (bh : Int) := of_decide_eq_true (by first | (with_reducible assumption) | assumption); have q246 : bh < (l0.length : Int) := of_decide_eq_true (by first | (with_reducible assumption) | assumption); obtain ⟨dn, e246, dp⟩ := Kd.at_string b6.out bh p246 q246
              cases e246
              replace p246 := eq_true p246; replace q246 := eq_true q246; go_wp2
              go_roundg k1
              case measure => have := b7.out; omega
              case rel => exact ⟨(wrap64 (bh + 1)), (by first | rfl | (simp; done) | (simp [*]; done)), H', ⟨by have := b7.out; omega⟩, by repeat (first | exact Drawn0.refl _ | apply Drawn0.step)⟩
          · rw [if_neg c5] at H
            exact absurd H (by simp)
        · rw [if_neg c4] at H
          exact absurd H (by simp)
      · rw [if_neg c3] at H
        have c3b0 : decide (bh < (l0.length : Int)) = false := decide_eq_false c3; clear c3; obtain rfl := Option.some.inj H; go_wp2
        go_ret
        exact ⟨by first | rfl | (simp; done) | (simp [*]; done), by repeat (first | exact Drawn0.refl _ | apply Drawn0.step)⟩

-- NOT PRINTED: function 95 (strconv_lower)

-- NOT PRINTED: function 96 (strconv_underscoreOK)

-- NOT PRINTED: function 82 (strconv_ParseUint)

-- NOT PRINTED: function 67 (strconv_ParseInt)

-- NOT PRINTED: function 54 (strconv_Atoi_54)

-- NOT PRINTED: function 83 (stringslite_Clone)

-- NOT PRINTED: function 68 (strconv_syntaxError)

-- NOT PRINTED: function 69 (strconv_rangeError)

-- NOT PRINTED: function 84 (errors_New)

-- NOT PRINTED: function 70 (strconv_baseError)

-- NOT PRINTED: function 71 (strconv_bitSizeError)

-- NOT PRINTED: function 55 (strconv_toError)

/-! ### strconv_Atoi: function 33, by the shelf's contract: the error is told as 'is there none' -/
def strconv_Atoi.f (s : ByteArray) : Option (Int × Bool) := if s.size ≤ 281474976710656 then some (match Lib.atoiAll s.data.toList with | .ok v => (v, true) | .«syntax» => (0, false) | .range => (Lib.atoiSat s.data.toList, false)) else none
theorem strconv_Atoi.calls (s : ByteArray) (r1 : Int) (r2 : Bool) (w : World) (h : strconv_Atoi.f s = some (r1, r2)) (hT_ : TabW w) :
  Calls Tryz.prog 33 #[.string s] w fun e w' => ∃ ev : Value, e = .returned (.tuple #[.int .i64 r1, ev]) ∧ (r2 = true → ev = .nilIface) ∧ (r2 = false → ∃ t b, ev = .iface t (.pointer (some ⟨b, 0, none⟩))) ∧ Below w.heap.size w w' := by
 unfold strconv_Atoi.f at h
 by_cases h0 : s.size ≤ 281474976710656
 · rw [if_pos h0] at h
   simp only [Option.some.injEq] at h
   cases ha : Lib.atoiAll s.data.toList with
   | ok v =>
     rw [ha] at h; simp only [Prod.mk.injEq] at h; obtain ⟨rfl, rfl⟩ := h; refine (Tryz.strconv_Atoi_ok s (by omega) v ha w).mono ?_; rintro e w' ⟨rfl, hw⟩; refine ⟨_, rfl, (fun _ => rfl), (fun h => by cases h), ?_⟩
     rcases hw with rfl | ⟨t, rfl⟩
     · exact Below.refl _ _
     · exact bytes_below (Below.refl _ _) (Nat.le_refl _) _ _
   | «syntax» =>
     rw [ha] at h; simp only [Prod.mk.injEq] at h; obtain ⟨rfl, rfl⟩ := h; obtain ⟨tp, p, hv⟩ := hT_.2.2.1; refine (Tryz.strconv_Atoi_syntax_var s h0 ha tp p w hv).mono ?_; rintro e w' ⟨N, rfl, _, _, hb⟩; exact ⟨_, rfl, (fun h => by cases h), (fun _ => ⟨_, _, rfl⟩), hb⟩
   | range =>
     rw [ha] at h; simp only [Prod.mk.injEq] at h; obtain ⟨rfl, rfl⟩ := h; obtain ⟨tp, p, hv⟩ := hT_.2.2.2; refine (Tryz.strconv_Atoi_range_var s h0 ha tp p w hv).mono ?_; rintro e w' ⟨N, rfl, _, _, hb⟩; exact ⟨_, rfl, (fun h => by cases h), (fun _ => ⟨_, _, rfl⟩), hb⟩
 · rw [if_neg h0] at h
   exact absurd h (by simp)

/-! ### stringslite_HasPrefix: function 72 -/
def stringslite_HasPrefix.f (a0 : ByteArray) (a1 : ByteArray) : Option (Bool) := if (a0.size : Int) ≥ (a1.size : Int) then (if 0 ≤ (a1.size : Int) then (if (a1.size : Int) ≤ (a0.size : Int) then (some ((a0.extract 0 ((a1.size : Int) : Int).toNat).toList == a1.toList)) else (none)) else (none)) else (some false)
set_option maxHeartbeats 8000000 in
set_option maxRecDepth 100000 in
theorem stringslite_HasPrefix.calls (a0 : ByteArray) (a1 : ByteArray) (r : Bool) (w : World) (h : stringslite_HasPrefix.f a0 a1 = some r) :
    Calls Tryz.prog 72 #[.string a0, .string a1] w fun e w' => e = .returned (.bool r) ∧ Drawn0 w w' := by
  have H : (if (a0.size : Int) ≥ (a1.size : Int) then (if 0 ≤ (a1.size : Int) then (if (a1.size : Int) ≤ (a0.size : Int) then (some ((a0.extract 0 ((a1.size : Int) : Int).toNat).toList == a1.toList)) else (none)) else (none)) else (some false)) = some r := h; clear h
  by_cases c3 : (a0.size : Int) ≥ (a1.size : Int)
  · rw [if_pos c3] at H
    have c3b0 : decide ((a1.size : Int) ≤ (a0.size : Int)) = true := decide_eq_true c3; have c3b1 : decide (a1.size ≤ a0.size) = true := decide_eq_true (Int.ofNat_le.mp c3); clear c3
    by_cases c4 : 0 ≤ (a1.size : Int)
    · rw [if_pos c4] at H
      have c4b0 := eq_true c4; have c4b1 : decide (0 ≤ (a1.size : Int)) = true := decide_eq_true c4; clear c4
      by_cases c5 : (a1.size : Int) ≤ (a0.size : Int)
      · rw [if_pos c5] at H
        have c5b0 := eq_true c5; have c5b1 : decide ((a1.size : Int) ≤ (a0.size : Int)) = true := decide_eq_true c5; clear c5; obtain rfl := Option.some.inj H
        go_enter Tryz.func72, Tryz.ntmps72
        go_wp2
        go_ret
        exact ⟨by first | rfl | (simp; done) | (simp [*]; done), by repeat (first | exact Drawn0.refl _ | apply Drawn0.step)⟩
      · rw [if_neg c5] at H
        exact absurd H (by simp)
    · rw [if_neg c4] at H
      exact absurd H (by simp)
  · rw [if_neg c3] at H
    have c3b0 : decide ((a1.size : Int) ≤ (a0.size : Int)) = false := decide_eq_false c3; have c3b1 : decide (a1.size ≤ a0.size) = false := decide_eq_false (fun h => c3 (Int.ofNat_le.mpr h)); clear c3; obtain rfl := Option.some.inj H
    go_enter Tryz.func72, Tryz.ntmps72
    go_wp2
    go_ret
    exact ⟨by first | rfl | (simp; done) | (simp [*]; done), by repeat (first | exact Drawn0.refl _ | apply Drawn0.step)⟩

/-! ### stringslite_TrimPrefix: function 56 -/
def stringslite_TrimPrefix.f (a0 : ByteArray) (a1 : ByteArray) : Option (ByteArray) := (stringslite_HasPrefix.f a0 a1).bind fun bo => (if bo = true then (if 0 ≤ (a1.size : Int) then (if (a1.size : Int) ≤ (a0.size : Int) then (some (a0.extract ((a1.size : Int) : Int).toNat a0.size)) else (none)) else (none)) else (some a0))
set_option maxHeartbeats 8000000 in
set_option maxRecDepth 100000 in
theorem stringslite_TrimPrefix.calls (a0 : ByteArray) (a1 : ByteArray) (r : ByteArray) (w : World) (h : stringslite_TrimPrefix.f a0 a1 = some r) :
    Calls Tryz.prog 56 #[.string a0, .string a1] w fun e w' => e = .returned (.string r) ∧ Drawn0 w w' := by
  have H : ((stringslite_HasPrefix.f a0 a1).bind fun bo => (if bo = true then (if 0 ≤ (a1.size : Int) then (if (a1.size : Int) ≤ (a0.size : Int) then (some (a0.extract ((a1.size : Int) : Int).toNat a0.size)) else (none)) else (none)) else (some a0))) = some r := h; clear h; replace H := Option.bind_eq_some_iff.mp H; obtain ⟨bo, A30, H⟩ := H; replace H : (if bo = true then (if 0 ≤ (a1.size : Int) then (if (a1.size : Int) ≤ (a0.size : Int) then (some (a0.extract ((a1.size : Int) : Int).toNat a0.size)) else (none)) else (none)) else (some a0)) = some r := H; have A3 := Aside0.mk A30; clear A30
  by_cases c4 : bo = true
  · subst c4
    have H1 : (if 0 ≤ (a1.size : Int) then (if (a1.size : Int) ≤ (a0.size : Int) then (some (a0.extract ((a1.size : Int) : Int).toNat a0.size)) else (none)) else (none)) = some r := by rw [if_pos rfl] at H; exact H
    clear H; have H := H1; clear H1
    by_cases c5 : 0 ≤ (a1.size : Int)
    · rw [if_pos c5] at H
      have c5b0 := eq_true c5; have c5b1 : decide (0 ≤ (a1.size : Int)) = true := decide_eq_true c5; clear c5
      by_cases c6 : (a1.size : Int) ≤ (a0.size : Int)
      · rw [if_pos c6] at H
        have c6b0 := eq_true c6; have c6b1 : decide ((a1.size : Int) ≤ (a0.size : Int)) = true := decide_eq_true c6; clear c6; obtain rfl := Option.some.inj H
        go_enter Tryz.func56, Tryz.ntmps56
        go_wp2_with (first | ((with_reducible refine gate_callee (f := 72) rfl ?_); refine goesM (some 7) rfl rfl Tryz.func72 (by kernel_rfl) rfl #[.string a0, .string a1] rfl ?_; (with_reducible refine (stringslite_HasPrefix.calls a0 a1 true _ A3.out).mono ?_); rintro e w' ⟨rfl, ⟨nd, rfl⟩⟩; refine ⟨_, rfl, ?_⟩))
        go_ret
        exact ⟨by first | rfl | (simp; done) | (simp [*]; done), by repeat (first | exact Drawn0.refl _ | apply Drawn0.step)⟩
      · rw [if_neg c6] at H
        exact absurd H (by simp)
    · rw [if_neg c5] at H
      exact absurd H (by simp)
  · replace c4 := Bool.eq_false_iff.mpr c4
    subst c4; have H1 : (some a0) = some r := by rw [if_neg (show ¬ (false = true) by decide)] at H; exact H
    clear H; have H := H1; clear H1; obtain rfl := Option.some.inj H
    go_enter Tryz.func56, Tryz.ntmps56
    go_wp2_with (first | ((with_reducible refine gate_callee (f := 72) rfl ?_); refine goesM (some 7) rfl rfl Tryz.func72 (by kernel_rfl) rfl #[.string a0, .string a1] rfl ?_; (with_reducible refine (stringslite_HasPrefix.calls a0 a1 false _ A3.out).mono ?_); rintro e w' ⟨rfl, ⟨nd, rfl⟩⟩; refine ⟨_, rfl, ?_⟩))
    go_ret
    exact ⟨by first | rfl | (simp; done) | (simp [*]; done), by repeat (first | exact Drawn0.refl _ | apply Drawn0.step)⟩

end Go.Proofs.YtlmcikjjeidnfaaGreatDoor.PFnTexts
