-- Written by a program of this session (wip/patch.py turns a copy of the kit's print): the functions that the law reaches, and their walks.
import Derived.Test.YtopbiecjfhfhdaaPFnCodesx0
import Derived.Test.YtopbiecjfhfhdaaCFnCodes
namespace Go.Proofs.Ytopbiecjfhfhdaa.PFnCodes
open Go.RowKit Go.Proofs.YtopbiecjfhfhdaaW.PrintWords Go.Proofs.YtopbiecjfhfhdaaW.PrintLast Go.Proofs.YtopbiecjfhfhdaaW.PrintMore Go.Proofs.YtopbiecjfhfhdaaW.Mine
attribute [local go_sem] max2_int min2_int max_two min_two max_three min_three max_four min_four   -- for this text's walks alone
set_option linter.unusedVariables false
set_option linter.unusedSimpArgs false

/-! ### spec_l1In: function 36 -/
def spec_l1In.f (a0 : Int) (a1 : Int) (a2 : Int) : Option (Bool) := if a0 ≥ a1 then (some (decide (a0 ≤ a2))) else (some false)
set_option maxHeartbeats 8000000 in
set_option maxRecDepth 100000 in
theorem spec_l1In.calls (a0 : Int) (a1 : Int) (a2 : Int) (r : Bool) (w : World) (h : spec_l1In.f a0 a1 a2 = some r) :
    Calls Try.prog 36 #[.int .i64 a0, .int .i64 a1, .int .i64 a2] w fun e w' => e = .returned (.bool r) ∧ Drawn0 w w' := by
  have H : (if a0 ≥ a1 then (some (decide (a0 ≤ a2))) else (some false)) = some r := h; clear h
  by_cases c4 : a0 ≥ a1
  · rw [if_pos c4] at H
    have c4b0 : decide (a1 ≤ a0) = true := decide_eq_true c4; clear c4; obtain rfl := Option.some.inj H
    go_enter Try.func36, Try.ntmps36
    go_wp2
    go_ret
    exact ⟨by first | rfl | (simp; done) | (simp [*]; done), by repeat (first | exact Drawn0.refl _ | apply Drawn0.step)⟩
  · rw [if_neg c4] at H
    have c4b0 : decide (a1 ≤ a0) = false := decide_eq_false c4; clear c4; obtain rfl := Option.some.inj H
    go_enter Try.func36, Try.ntmps36
    go_wp2
    go_ret
    exact ⟨by first | rfl | (simp; done) | (simp [*]; done), by repeat (first | exact Drawn0.refl _ | apply Drawn0.step)⟩

/-! ### spec_l6Has: function 34 -/
def spec_l6Has.f (a0 : Int) : Option (Int) := (spec_l1In.f a0 1 15).bind fun bg => (if bg = true then ((some (([0, 9, 7, 3, 7, 7, 15, 7, 7, 3, 11, 14, 3, 10, 2, 0] : List Int) : List Int)).bind fun bb => (if 0 ≤ a0 then (if a0 < (bb.length : Int) then (some (rd bb a0)) else (none)) else (none))) else (some 0))
set_option maxHeartbeats 8000000 in
set_option maxRecDepth 100000 in
theorem spec_l6Has.calls (a0 : Int) (r : Int) (w : World) (h : spec_l6Has.f a0 = some r) :
    Calls Try.prog 34 #[.int .i64 a0] w fun e w' => e = .returned (.int .i64 r) ∧ Below w.heap.size w w' := by
  have HB := Aside0.mk (Below.refl w.heap.size w); have H : ((spec_l1In.f a0 1 15).bind fun bg => (if bg = true then ((some (([0, 9, 7, 3, 7, 7, 15, 7, 7, 3, 11, 14, 3, 10, 2, 0] : List Int) : List Int)).bind fun bb => (if 0 ≤ a0 then (if a0 < (bb.length : Int) then (some (rd bb a0)) else (none)) else (none))) else (some 0))) = some r := h; clear h; replace H := Option.bind_eq_some_iff.mp H; obtain ⟨bg, A20, H⟩ := H; replace H : (if bg = true then ((some (([0, 9, 7, 3, 7, 7, 15, 7, 7, 3, 11, 14, 3, 10, 2, 0] : List Int) : List Int)).bind fun bb => (if 0 ≤ a0 then (if a0 < (bb.length : Int) then (some (rd bb a0)) else (none)) else (none))) else (some 0)) = some r := H; have A2 := Aside0.mk A20; clear A20
  by_cases c3 : bg = true
  · subst c3
    have H1 : ((some (([0, 9, 7, 3, 7, 7, 15, 7, 7, 3, 11, 14, 3, 10, 2, 0] : List Int) : List Int)).bind fun bb => (if 0 ≤ a0 then (if a0 < (bb.length : Int) then (some (rd bb a0)) else (none)) else (none))) = some r := by rw [if_pos rfl] at H; exact H
    clear H; have H := H1; clear H1; obtain ⟨bb, bk⟩ : ∃ y_ : List Int, y_ = (([0, 9, 7, 3, 7, 7, 15, 7, 7, 3, 11, 14, 3, 10, 2, 0] : List Int)) := ⟨_, rfl⟩; replace H : (if 0 ≤ a0 then (if a0 < (bb.length : Int) then (some (rd bb a0)) else (none)) else (none)) = some r := by first | (rw [bk]; with_reducible exact H) | (have H2_ := (Option.bind_some _ _).symm.trans H; rw [bk]; with_reducible exact H2_) | (have H2_ := (Option.bind_some _ _).symm.trans H; with_reducible exact H2_) | with_reducible exact H | (rw [bk]; exact H) | exact H
    have bs := Aside0.mk bk; clear bk
    by_cases c4 : 0 ≤ a0
    · rw [if_pos c4] at H
      have c4b0 : decide (0 ≤ a0) = true := decide_eq_true c4; clear c4
      by_cases c5 : a0 < (bb.length : Int)
      · rw [if_pos c5] at H
        have c5b0 : decide (a0 < (bb.length : Int)) = true := decide_eq_true c5; clear c5; obtain rfl := Option.some.inj H
        go_enter Try.func34, Try.ntmps34
        go_wp2_with (first | ((with_reducible refine gate_callee (f := 36) rfl ?_); refine goesM (some 4) rfl rfl Try.func36 (by kernel_rfl) rfl #[.int .i64 a0, .int .i64 1, .int .i64 15] rfl ?_; (with_reducible refine (spec_l1In.calls a0 1 15 true _ A2.out).mono ?_); rintro e w' ⟨rfl, ⟨nd, rfl⟩⟩; refine ⟨_, rfl, ?_⟩) | ((with_reducible refine gate_dst (N := 6) rfl ?_); refine Kd.R_lit (Kd.int .i64) _ 3 ?hg (N := 6) ?hd (xs := ([0, 9, 7, 3, 7, 7, 15, 7, 7, 3, 11, 14, 3, 10, 2, 0] : List Int)) (inner := [.int .i64 0, .int .i64 9, .int .i64 7, .int .i64 3, .int .i64 7, .int .i64 7, .int .i64 15, .int .i64 7, .int .i64 7, .int .i64 3, .int .i64 11, .int .i64 14, .int .i64 3, .int .i64 10, .int .i64 2, .int .i64 0]) (ok := fun _ => True) (okp := fun _ => True) ?hr ?hp (fun _ hk => hk) trivial (Below.refl _ _) (Nat.le_refl _) (by simp) ?_; (case hd => rfl); (case hg => rfl); (case hr => first | (go_simp; done) | (go_simp; rfl)); (case hp => exact (Reps.one (show Kd.M (Kd.int .i64) _ _ _ 0 [.int .i64 0] from rfl) (Reps.one (show Kd.M (Kd.int .i64) _ _ _ 9 [.int .i64 9] from rfl) (Reps.one (show Kd.M (Kd.int .i64) _ _ _ 7 [.int .i64 7] from rfl) (Reps.one (show Kd.M (Kd.int .i64) _ _ _ 3 [.int .i64 3] from rfl) (Reps.one (show Kd.M (Kd.int .i64) _ _ _ 7 [.int .i64 7] from rfl) (Reps.one (show Kd.M (Kd.int .i64) _ _ _ 7 [.int .i64 7] from rfl) (Reps.one (show Kd.M (Kd.int .i64) _ _ _ 15 [.int .i64 15] from rfl) (Reps.one (show Kd.M (Kd.int .i64) _ _ _ 7 [.int .i64 7] from rfl) (Reps.one (show Kd.M (Kd.int .i64) _ _ _ 7 [.int .i64 7] from rfl) (Reps.one (show Kd.M (Kd.int .i64) _ _ _ 3 [.int .i64 3] from rfl) (Reps.one (show Kd.M (Kd.int .i64) _ _ _ 11 [.int .i64 11] from rfl) (Reps.one (show Kd.M (Kd.int .i64) _ _ _ 14 [.int .i64 14] from rfl) (Reps.one (show Kd.M (Kd.int .i64) _ _ _ 3 [.int .i64 3] from rfl) (Reps.one (show Kd.M (Kd.int .i64) _ _ _ 10 [.int .i64 10] from rfl) (Reps.one (show Kd.M (Kd.int .i64) _ _ _ 2 [.int .i64 2] from rfl) (Reps.one (show Kd.M (Kd.int .i64) _ _ _ 0 [.int .i64 0] from rfl) (Reps.none _ _)))))))))))))))))); intro bT w6 bl hb hg_ hnew_; clear hg_ hnew_; (first | rw [← bs.out] at bl | (simp only [Int.reduceToNat] at bl; rw [← bs.out] at bl)); have bu := Aside0.mk (Kd.R_lower bl (bsz HB)); replace HB := nbs HB hb; clear hb bl; obtain ⟨bU, bV, bx⟩ := Kd.R_slice bu.out; subst bx; have p105 : 0 ≤ (a0 : Int) := of_decide_eq_true (by first | (with_reducible assumption) | assumption); have q105 : a0 < (bb.length : Int) := of_decide_eq_true (by first | (with_reducible assumption) | assumption); obtain ⟨bW, e105, bX⟩ := Kd.at_int (Kd.R_reads' bu.out).2.2 a0 p105 q105; cases e105; replace p105 := eq_true p105; replace q105 := eq_true q105))
        go_ret
        exact ⟨er_, nbe HB⟩
      · rw [if_neg c5] at H
        exact absurd H (by simp)
    · rw [if_neg c4] at H
      exact absurd H (by simp)
  · replace c3 := Bool.eq_false_iff.mpr c3
    subst c3; have H1 : (some 0) = some r := by rw [if_neg (show ¬ (false = true) by decide)] at H; exact H
    clear H; have H := H1; clear H1; obtain rfl := Option.some.inj H
    go_enter Try.func34, Try.ntmps34
    go_wp2_with (first | ((with_reducible refine gate_callee (f := 36) rfl ?_); refine goesM (some 4) rfl rfl Try.func36 (by kernel_rfl) rfl #[.int .i64 a0, .int .i64 1, .int .i64 15] rfl ?_; (with_reducible refine (spec_l1In.calls a0 1 15 false _ A2.out).mono ?_); rintro e w' ⟨rfl, ⟨nd, rfl⟩⟩; refine ⟨_, rfl, ?_⟩))
    go_ret
    exact ⟨er_, nbe HB⟩

/-! ### spec_Sets: function 10 -/
def spec_Sets.f (a0_0 : Int) (a0_1 : Int) (a0_2 : Int) (a0_3 : Int) (a0_4 : Int) : Option (Int) := (spec_l6Has.f a0_0).bind fun bc => (if (Go.bits .and .i64 bc 1) = 0 then (some (-1)) else (some a0_1))
set_option maxHeartbeats 8000000 in
set_option maxRecDepth 100000 in
theorem spec_Sets.calls (a0_0 : Int) (a0_1 : Int) (a0_2 : Int) (a0_3 : Int) (a0_4 : Int) (r : Int) (w : World) (h : spec_Sets.f a0_0 a0_1 a0_2 a0_3 a0_4 = some r) :
    Calls Try.prog 10 #[.agg #[.int .i64 a0_0, .int .i64 a0_1, .int .i64 a0_2, .int .i64 a0_3, .int .i64 a0_4]] w fun e w' => e = .returned (.int .i64 r) ∧ Below w.heap.size w w' := by
  have hu25 := Try.underlying25; have HB := Aside0.mk (Below.refl w.heap.size w); have H : ((spec_l6Has.f a0_0).bind fun bc => (if (Go.bits .and .i64 bc 1) = 0 then (some (-1)) else (some a0_1))) = some r := h; clear h; replace H := Option.bind_eq_some_iff.mp H; obtain ⟨bc, A20, H⟩ := H; replace H : (if (Go.bits .and .i64 bc 1) = 0 then (some (-1)) else (some a0_1)) = some r := H; have A2 := Aside0.mk A20; clear A20
  by_cases c3 : (Go.bits .and .i64 bc 1) = 0
  · rw [if_pos c3] at H
    have c3b0 : ((Go.bits .and .i64 bc 1) == 0) = true := beq_iff_eq.mpr c3; have c3b1 : ((Go.bits .and .i64 bc 1) != 0) = false := bne_eq_false_iff_eq.mpr c3; clear c3; obtain rfl := Option.some.inj H
    go_enter Try.func10, Try.ntmps10
    go_wp2_with (first | ((with_reducible refine gate_dst (N := 1) rfl ?_); refine bxe 1 #[.int .i64 a0_0, .int .i64 a0_1, .int .i64 a0_2, .int .i64 a0_3, .int .i64 a0_4] 25 ?_; intro bz hg w4 hbox hb; have bd := hbox; have bA := nge HB hg; have bB := nge HB hg; replace HB := nbs HB hb; clear hb hbox hg; obtain ⟨bC, bD, bE, bF, bG⟩ := c5e bd; obtain ⟨bH, bI, bJ, bK, bL⟩ := z5_ bd) | ((with_reducible refine gate_callee (f := 34) rfl ?_); refine goesM (some 5) rfl rfl Try.func34 (by kernel_rfl) rfl #[.int .i64 a0_0] rfl ?_; (with_reducible refine (spec_l6Has.calls a0_0 bc _ A2.out).mono ?_); rintro e w6 ⟨rfl, hb⟩; refine ⟨_, rfl, ?_⟩; replace bd := nblk bd hb; replace HB := nbs HB hb; (try clear hb)))
    go_ret
    exact ⟨er_, nbe HB⟩
  · rw [if_neg c3] at H
    have c3b0 : ((Go.bits .and .i64 bc 1) == 0) = false := beq_eq_false_iff_ne.mpr c3; have c3b1 : ((Go.bits .and .i64 bc 1) != 0) = true := bne_iff_ne.mpr c3; obtain rfl := Option.some.inj H
    go_enter Try.func10, Try.ntmps10
    go_wp2_with (first | ((with_reducible refine gate_dst (N := 1) rfl ?_); refine bxe 1 #[.int .i64 a0_0, .int .i64 a0_1, .int .i64 a0_2, .int .i64 a0_3, .int .i64 a0_4] 25 ?_; intro bz hg w7 hbox hb; have bd := hbox; have bA := nge HB hg; have bB := nge HB hg; replace HB := nbs HB hb; clear hb hbox hg; obtain ⟨bY, bZ, b0, b1, b2⟩ := c5e bd; obtain ⟨b3, b4, b5, b6, b7⟩ := z5_ bd) | ((with_reducible refine gate_callee (f := 34) rfl ?_); refine goesM (some 5) rfl rfl Try.func34 (by kernel_rfl) rfl #[.int .i64 a0_0] rfl ?_; (with_reducible refine (spec_l6Has.calls a0_0 bc _ A2.out).mono ?_); rintro e w9 ⟨rfl, hb⟩; refine ⟨_, rfl, ?_⟩; replace bd := nblk bd hb; replace HB := nbs HB hb; (try clear hb); obtain ⟨b8, b9, da, db, dc⟩ := c5e bd; obtain ⟨dd, de, df, dg, dh⟩ := z5_ bd))
    go_ret
    exact ⟨er_, nbe HB⟩

/-! ### impl_formOf: function 38 -/
mutual
def impl_formOf.j0 : Nat → Int → Bool → Option (ByteArray × Bool)
  | 0, _, _ => none
  | k + 1, x4, x7 => if x7 = true then (some ((⟨#[82, 65, 66]⟩ : ByteArray), true)) else (if x4 = 3 then (impl_formOf.j1 k x4 (x4 == 3)) else (if x4 = 9 then (impl_formOf.j1 k x4 (x4 == 9)) else (impl_formOf.j1 k x4 (x4 == 12))))
def impl_formOf.j1 : Nat → Int → Bool → Option (ByteArray × Bool)
  | 0, _, _ => none
  | k + 1, x4, bM => if bM = true then (some ((⟨#[82, 65]⟩ : ByteArray), true)) else (if x4 = 6 then (some ((⟨#[82, 65, 66, 78]⟩ : ByteArray), true)) else (if x4 = 10 then (some ((⟨#[82, 65, 78]⟩ : ByteArray), true)) else (if x4 = 11 then (some ((⟨#[65, 66, 78]⟩ : ByteArray), true)) else (if x4 = 13 then (some ((⟨#[65, 78]⟩ : ByteArray), true)) else (if x4 = 14 then (some ((⟨#[65]⟩ : ByteArray), true)) else (if x4 = 15 then (some ((⟨#[]⟩ : ByteArray), true)) else (some ((⟨#[]⟩ : ByteArray), false))))))))
end
def impl_formOf.f (k : Nat) (a0 : Int) : Option (ByteArray × Bool) := if a0 = 1 then (some ((⟨#[82, 78]⟩ : ByteArray), true)) else (if a0 = 2 then (impl_formOf.j0 k a0 (a0 == 2)) else (if a0 = 4 then (impl_formOf.j0 k a0 (a0 == 4)) else (if a0 = 5 then (impl_formOf.j0 k a0 (a0 == 5)) else (if a0 = 7 then (impl_formOf.j0 k a0 (a0 == 7)) else (impl_formOf.j0 k a0 (a0 == 8))))))
theorem impl_formOf.mono_l : ∀ k, (∀ y0 y1, LeO (impl_formOf.j0 k y0 y1) (impl_formOf.j0 (k + 1) y0 y1)) ∧ (∀ y0 y1, LeO (impl_formOf.j1 k y0 y1) (impl_formOf.j1 (k + 1) y0 y1))
  | 0 => ⟨fun _ _ r h => by simp [impl_formOf.j0] at h, fun _ _ r h => by simp [impl_formOf.j1] at h⟩
  | k + 1 => by
    obtain ⟨ih0, ih1⟩ := impl_formOf.mono_l k; refine ⟨?_, ?_⟩
    · intro y0 y1
      unfold impl_formOf.j0
      repeat' first
      | (with_reducible exact ih0 _ _)
      | (with_reducible exact ih1 _ _)
      | (with_reducible exact LeO.refl _)
      | (with_reducible exact LeO.none _)
      | (with_reducible refine LeO.ite ?_ ?_)
      | (with_reducible refine LeO.bind ?_ (fun _ => ?_))
      | exact ih0 _ _
      | exact ih1 _ _
      | exact LeO.none _
      | refine LeO.ite ?_ ?_
      | refine LeO.bind ?_ (fun _ => ?_)
    · intro y0 y1
      unfold impl_formOf.j1
      repeat' first
      | (with_reducible exact ih0 _ _)
      | (with_reducible exact ih1 _ _)
      | (with_reducible exact LeO.refl _)
      | (with_reducible exact LeO.none _)
      | (with_reducible refine LeO.ite ?_ ?_)
      | (with_reducible refine LeO.bind ?_ (fun _ => ?_))
      | exact ih0 _ _
      | exact ih1 _ _
      | exact LeO.none _
      | refine LeO.ite ?_ ?_
      | refine LeO.bind ?_ (fun _ => ?_)
theorem impl_formOf.mono : ∀ a0 k, LeO (impl_formOf.f k a0) (impl_formOf.f (k + 1) a0) := by
  intro a0 k; obtain ⟨ih0, ih1⟩ := impl_formOf.mono_l k
  unfold impl_formOf.f
  repeat' first
      | (with_reducible exact ih0 _ _)
      | (with_reducible exact ih1 _ _)
      | (with_reducible exact LeO.refl _)
      | (with_reducible exact LeO.none _)
      | (with_reducible refine LeO.ite ?_ ?_)
      | (with_reducible refine LeO.bind ?_ (fun _ => ?_))
      | exact ih0 _ _
      | exact ih1 _ _
      | exact LeO.none _
      | refine LeO.ite ?_ ?_
      | refine LeO.bind ?_ (fun _ => ?_)
set_option maxHeartbeats 8000000 in
set_option maxRecDepth 100000 in
theorem impl_formOf.calls (k : Nat) (a0 : Int) (r1 : ByteArray) (r2 : Bool) (w : World) (h : impl_formOf.f k a0 = some (r1, r2)) :
    Calls Try.prog 38 #[.int .i64 a0] w fun e w' => e = .returned (.tuple #[.string r1, .bool r2]) ∧ Drawn0 w w' := by
  have H : (if a0 = 1 then (some ((⟨#[82, 78]⟩ : ByteArray), true)) else (if a0 = 2 then (impl_formOf.j0 k a0 (a0 == 2)) else (if a0 = 4 then (impl_formOf.j0 k a0 (a0 == 4)) else (if a0 = 5 then (impl_formOf.j0 k a0 (a0 == 5)) else (if a0 = 7 then (impl_formOf.j0 k a0 (a0 == 7)) else (impl_formOf.j0 k a0 (a0 == 8))))))) = some (r1, r2) := h; clear h
  by_cases c2 : a0 = 1
  · rw [if_pos c2] at H
    have c2b0 : (a0 == 1) = true := beq_iff_eq.mpr c2; have c2b1 : (a0 != 1) = false := bne_eq_false_iff_eq.mpr c2; clear c2; simp only [Option.some.injEq, Prod.mk.injEq] at H; obtain ⟨rfl, rfl⟩ := H
    go_enter Try.func38, Try.ntmps38
    go_wp2
    go_ret2
    exact ⟨by first | rfl | (simp; done) | (simp [*]; done), by repeat (first | exact Drawn0.refl _ | apply Drawn0.step)⟩
  · rw [if_neg c2] at H
    have c2b0 : (a0 == 1) = false := beq_eq_false_iff_ne.mpr c2; have c2b1 : (a0 != 1) = true := bne_iff_ne.mpr c2; have bp := Aside0.mk H; clear H
    go_enter Try.func38, Try.ntmps38
    go_upto_if 7 with (fail)
    go_cut [7] (fun v7 wc => ∃ (kq : Nat) (bm : Bool), v7 = .bool bm ∧ Aside0 (impl_formOf.j0 kq a0 bm = some (r1, r2)) ∧ Aside0 (kq ≤ k) ∧ Drawn0 w wc)
    case first =>
      have H := bp.out; clear bp
      by_cases c4 : a0 = 2
      · rw [if_pos c4] at H
        have c4b0 : (a0 == 2) = true := beq_iff_eq.mpr c4; have c4b1 : (a0 != 2) = false := bne_eq_false_iff_eq.mpr c4; clear c4; (first | rw [c4b0] | (simp only [i64_w, i32_w]; rw [c4b0]) | skip); have H' := Aside0.mk H; clear H; go_wp2
        go_meet
        case rel => exact ⟨_, ((a0 == 2)), (by first | rfl | (simp; done) | (simp [*]; done)), H', ⟨by first | omega | exact Nat.le_refl _⟩, by repeat (first | exact Drawn0.refl _ | apply Drawn0.step)⟩
      · rw [if_neg c4] at H
        have c4b0 : (a0 == 2) = false := beq_eq_false_iff_ne.mpr c4; have c4b1 : (a0 != 2) = true := bne_iff_ne.mpr c4; (first | rw [c4b0] | (simp only [i64_w, i32_w]; rw [c4b0]) | skip)
        by_cases c5 : a0 = 4
        · rw [if_pos c5] at H
          have c5b0 : (a0 == 4) = true := beq_iff_eq.mpr c5; have c5b1 : (a0 != 4) = false := bne_eq_false_iff_eq.mpr c5; clear c5; have H' := Aside0.mk H; clear H; go_wp2
          go_meet
          case rel => exact ⟨_, ((a0 == 4)), (by first | rfl | (simp; done) | (simp [*]; done)), H', ⟨by first | omega | exact Nat.le_refl _⟩, by repeat (first | exact Drawn0.refl _ | apply Drawn0.step)⟩
        · rw [if_neg c5] at H
          have c5b0 : (a0 == 4) = false := beq_eq_false_iff_ne.mpr c5; have c5b1 : (a0 != 4) = true := bne_iff_ne.mpr c5
          by_cases c6 : a0 = 5
          · rw [if_pos c6] at H
            have c6b0 : (a0 == 5) = true := beq_iff_eq.mpr c6; have c6b1 : (a0 != 5) = false := bne_eq_false_iff_eq.mpr c6; clear c6; have H' := Aside0.mk H; clear H; go_wp2
            go_meet
            case rel => exact ⟨_, ((a0 == 5)), (by first | rfl | (simp; done) | (simp [*]; done)), H', ⟨by first | omega | exact Nat.le_refl _⟩, by repeat (first | exact Drawn0.refl _ | apply Drawn0.step)⟩
          · rw [if_neg c6] at H
            have c6b0 : (a0 == 5) = false := beq_eq_false_iff_ne.mpr c6; have c6b1 : (a0 != 5) = true := bne_iff_ne.mpr c6
            by_cases c7 : a0 = 7
            · rw [if_pos c7] at H
              have c7b0 : (a0 == 7) = true := beq_iff_eq.mpr c7; have c7b1 : (a0 != 7) = false := bne_eq_false_iff_eq.mpr c7; clear c7; have H' := Aside0.mk H; clear H; go_wp2
              go_meet
              case rel => exact ⟨_, ((a0 == 7)), (by first | rfl | (simp; done) | (simp [*]; done)), H', ⟨by first | omega | exact Nat.le_refl _⟩, by repeat (first | exact Drawn0.refl _ | apply Drawn0.step)⟩
            · rw [if_neg c7] at H
              have c7b0 : (a0 == 7) = false := beq_eq_false_iff_ne.mpr c7; have c7b1 : (a0 != 7) = true := bne_iff_ne.mpr c7; have H' := Aside0.mk H; clear H; go_wp2
              go_meet
              case rel => exact ⟨_, ((a0 == 8)), (by first | rfl | (simp; done) | (simp [*]; done)), H', ⟨by first | omega | exact Nat.le_refl _⟩, by repeat (first | exact Drawn0.refl _ | apply Drawn0.step)⟩
    case rest =>
      clear bp; try clear c2
      try clear c2b0
      try clear c2b1
      try clear p2
      try clear c3
      try clear c4
      try clear c4b0
      try clear c4b1
      try clear c5
      try clear c5b0
      try clear c5b1
      try clear c6
      try clear c6b0
      try clear c6b1
      try clear c7
      try clear c7b0
      try clear c7b1
      obtain ⟨kq, bm, rfl, HA, bq, ⟨mc2, rfl⟩⟩ := hcut
      cases kq with
      | zero => exact absurd HA.out (by simp [impl_formOf.j0])
      | succ kj2 =>
        have H := HA.out; clear HA; simp only [impl_formOf.j0] at H
        by_cases c8 : bm = true
        · subst c8
          have H1 : (some ((⟨#[82, 65, 66]⟩ : ByteArray), true)) = some (r1, r2) := by rw [if_pos rfl] at H; exact H
          clear H; have H := H1; clear H1; simp only [Option.some.injEq, Prod.mk.injEq] at H; obtain ⟨rfl, rfl⟩ := H; go_wp2
          go_ret2
          exact ⟨by first | rfl | (simp; done) | (simp [*]; done), by repeat (first | exact Drawn0.refl _ | apply Drawn0.step)⟩
        · replace c8 := Bool.eq_false_iff.mpr c8
          subst c8; have H1 : (if a0 = 3 then (impl_formOf.j1 kj2 a0 (a0 == 3)) else (if a0 = 9 then (impl_formOf.j1 kj2 a0 (a0 == 9)) else (impl_formOf.j1 kj2 a0 (a0 == 12)))) = some (r1, r2) := by rw [if_neg (show ¬ (false = true) by decide)] at H; exact H
          clear H; have H := H1; clear H1; have br := Aside0.mk H; clear H
          go_upto_if 13 with (fail)
          go_cut [13] (fun bN wc => ∃ (kq : Nat) (bn : Bool), bN = .bool bn ∧ Aside0 (impl_formOf.j1 kq a0 bn = some (r1, r2)) ∧ Aside0 (kq ≤ kj2) ∧ Drawn0 w wc)
          case first =>
            have H := br.out; clear br
            by_cases c10 : a0 = 3
            · rw [if_pos c10] at H
              have c10b0 : (a0 == 3) = true := beq_iff_eq.mpr c10; have c10b1 : (a0 != 3) = false := bne_eq_false_iff_eq.mpr c10; clear c10; (first | rw [c10b0] | (simp only [i64_w, i32_w]; rw [c10b0]) | skip); have H' := Aside0.mk H; clear H; go_wp2
              go_meet
              case rel => exact ⟨_, ((a0 == 3)), (by first | rfl | (simp; done) | (simp [*]; done)), H', ⟨by have := bq.out; first | omega | exact Nat.le_refl _⟩, by repeat (first | exact Drawn0.refl _ | apply Drawn0.step)⟩
            · rw [if_neg c10] at H
              have c10b0 : (a0 == 3) = false := beq_eq_false_iff_ne.mpr c10; have c10b1 : (a0 != 3) = true := bne_iff_ne.mpr c10; (first | rw [c10b0] | (simp only [i64_w, i32_w]; rw [c10b0]) | skip)
              by_cases c11 : a0 = 9
              · rw [if_pos c11] at H
                have c11b0 : (a0 == 9) = true := beq_iff_eq.mpr c11; have c11b1 : (a0 != 9) = false := bne_eq_false_iff_eq.mpr c11; clear c11; have H' := Aside0.mk H; clear H; go_wp2
                go_meet
                case rel => exact ⟨_, ((a0 == 9)), (by first | rfl | (simp; done) | (simp [*]; done)), H', ⟨by have := bq.out; first | omega | exact Nat.le_refl _⟩, by repeat (first | exact Drawn0.refl _ | apply Drawn0.step)⟩
              · rw [if_neg c11] at H
                have c11b0 : (a0 == 9) = false := beq_eq_false_iff_ne.mpr c11; have c11b1 : (a0 != 9) = true := bne_iff_ne.mpr c11; have H' := Aside0.mk H; clear H; go_wp2
                go_meet
                case rel => exact ⟨_, ((a0 == 12)), (by first | rfl | (simp; done) | (simp [*]; done)), H', ⟨by have := bq.out; first | omega | exact Nat.le_refl _⟩, by repeat (first | exact Drawn0.refl _ | apply Drawn0.step)⟩
          case rest =>
            clear br; try clear c1
            try clear c2
            try clear c2b0
            try clear c2b1
            try clear p2
            try clear c3
            try clear c4
            try clear c4b0
            try clear c4b1
            try clear c5
            try clear c5b0
            try clear c5b1
            try clear c6
            try clear c6b0
            try clear c6b1
            try clear c7
            try clear c7b0
            try clear c7b1
            try clear c8
            try clear c10
            try clear c10b0
            try clear c10b1
            try clear c11
            try clear c11b0
            try clear c11b1
            try clear p2
            obtain ⟨kq, bn, rfl, HA, di, ⟨mc8, rfl⟩⟩ := hcut
            cases kq with
            | zero => exact absurd HA.out (by simp [impl_formOf.j1])
            | succ kj8 =>
              have H := HA.out; clear HA; simp only [impl_formOf.j1] at H
              by_cases c12 : bn = true
              · subst c12
                have H1 : (some ((⟨#[82, 65]⟩ : ByteArray), true)) = some (r1, r2) := by rw [if_pos rfl] at H; exact H
                clear H; have H := H1; clear H1; simp only [Option.some.injEq, Prod.mk.injEq] at H; obtain ⟨rfl, rfl⟩ := H; go_wp2
                go_ret2
                exact ⟨by first | rfl | (simp; done) | (simp [*]; done), by repeat (first | exact Drawn0.refl _ | apply Drawn0.step)⟩
              · replace c12 := Bool.eq_false_iff.mpr c12
                subst c12; have H1 : (if a0 = 6 then (some ((⟨#[82, 65, 66, 78]⟩ : ByteArray), true)) else (if a0 = 10 then (some ((⟨#[82, 65, 78]⟩ : ByteArray), true)) else (if a0 = 11 then (some ((⟨#[65, 66, 78]⟩ : ByteArray), true)) else (if a0 = 13 then (some ((⟨#[65, 78]⟩ : ByteArray), true)) else (if a0 = 14 then (some ((⟨#[65]⟩ : ByteArray), true)) else (if a0 = 15 then (some ((⟨#[]⟩ : ByteArray), true)) else (some ((⟨#[]⟩ : ByteArray), false)))))))) = some (r1, r2) := by rw [if_neg (show ¬ (false = true) by decide)] at H; exact H
                clear H; have H := H1; clear H1
                by_cases c13 : a0 = 6
                · rw [if_pos c13] at H
                  have c13b0 : (a0 == 6) = true := beq_iff_eq.mpr c13; have c13b1 : (a0 != 6) = false := bne_eq_false_iff_eq.mpr c13; clear c13; simp only [Option.some.injEq, Prod.mk.injEq] at H; obtain ⟨rfl, rfl⟩ := H; go_wp2
                  go_ret2
                  exact ⟨by first | rfl | (simp; done) | (simp [*]; done), by repeat (first | exact Drawn0.refl _ | apply Drawn0.step)⟩
                · rw [if_neg c13] at H
                  have c13b0 : (a0 == 6) = false := beq_eq_false_iff_ne.mpr c13; have c13b1 : (a0 != 6) = true := bne_iff_ne.mpr c13
                  by_cases c14 : a0 = 10
                  · rw [if_pos c14] at H
                    have c14b0 : (a0 == 10) = true := beq_iff_eq.mpr c14; have c14b1 : (a0 != 10) = false := bne_eq_false_iff_eq.mpr c14; clear c14; simp only [Option.some.injEq, Prod.mk.injEq] at H; obtain ⟨rfl, rfl⟩ := H; go_wp2
                    go_ret2
                    exact ⟨by first | rfl | (simp; done) | (simp [*]; done), by repeat (first | exact Drawn0.refl _ | apply Drawn0.step)⟩
                  · rw [if_neg c14] at H
                    have c14b0 : (a0 == 10) = false := beq_eq_false_iff_ne.mpr c14; have c14b1 : (a0 != 10) = true := bne_iff_ne.mpr c14
                    by_cases c15 : a0 = 11
                    · rw [if_pos c15] at H
                      have c15b0 : (a0 == 11) = true := beq_iff_eq.mpr c15; have c15b1 : (a0 != 11) = false := bne_eq_false_iff_eq.mpr c15; clear c15; simp only [Option.some.injEq, Prod.mk.injEq] at H; obtain ⟨rfl, rfl⟩ := H; go_wp2
                      go_ret2
                      exact ⟨by first | rfl | (simp; done) | (simp [*]; done), by repeat (first | exact Drawn0.refl _ | apply Drawn0.step)⟩
                    · rw [if_neg c15] at H
                      have c15b0 : (a0 == 11) = false := beq_eq_false_iff_ne.mpr c15; have c15b1 : (a0 != 11) = true := bne_iff_ne.mpr c15
                      by_cases c16 : a0 = 13
                      · rw [if_pos c16] at H
                        have c16b0 : (a0 == 13) = true := beq_iff_eq.mpr c16; have c16b1 : (a0 != 13) = false := bne_eq_false_iff_eq.mpr c16; clear c16; simp only [Option.some.injEq, Prod.mk.injEq] at H; obtain ⟨rfl, rfl⟩ := H; go_wp2
                        go_ret2
                        exact ⟨by first | rfl | (simp; done) | (simp [*]; done), by repeat (first | exact Drawn0.refl _ | apply Drawn0.step)⟩
                      · rw [if_neg c16] at H
                        have c16b0 : (a0 == 13) = false := beq_eq_false_iff_ne.mpr c16; have c16b1 : (a0 != 13) = true := bne_iff_ne.mpr c16
                        by_cases c17 : a0 = 14
                        · rw [if_pos c17] at H
                          have c17b0 : (a0 == 14) = true := beq_iff_eq.mpr c17; have c17b1 : (a0 != 14) = false := bne_eq_false_iff_eq.mpr c17; clear c17; simp only [Option.some.injEq, Prod.mk.injEq] at H; obtain ⟨rfl, rfl⟩ := H; go_wp2
                          go_ret2
                          exact ⟨by first | rfl | (simp; done) | (simp [*]; done), by repeat (first | exact Drawn0.refl _ | apply Drawn0.step)⟩
                        · rw [if_neg c17] at H
                          have c17b0 : (a0 == 14) = false := beq_eq_false_iff_ne.mpr c17; have c17b1 : (a0 != 14) = true := bne_iff_ne.mpr c17
                          by_cases c18 : a0 = 15
                          · rw [if_pos c18] at H
                            have c18b0 : (a0 == 15) = true := beq_iff_eq.mpr c18; have c18b1 : (a0 != 15) = false := bne_eq_false_iff_eq.mpr c18; clear c18; simp only [Option.some.injEq, Prod.mk.injEq] at H; obtain ⟨rfl, rfl⟩ := H; go_wp2
                            go_ret2
                            exact ⟨by first | rfl | (simp; done) | (simp [*]; done), by repeat (first | exact Drawn0.refl _ | apply Drawn0.step)⟩
                          · rw [if_neg c18] at H
                            have c18b0 : (a0 == 15) = false := beq_eq_false_iff_ne.mpr c18; have c18b1 : (a0 != 15) = true := bne_iff_ne.mpr c18; simp only [Option.some.injEq, Prod.mk.injEq] at H; obtain ⟨rfl, rfl⟩ := H; go_wp2
                            go_ret2
                            exact ⟨by first | rfl | (simp; done) | (simp [*]; done), by repeat (first | exact Drawn0.refl _ | apply Drawn0.step)⟩

/-! ### slices_Index_byte_byte: function 59 -/
def slices_Index_byte_byte.l0 : Nat → List Int → Int → Int → Int → Option (Int)
  | 0, _, _, _, _ => none
  | k + 1, x0, x1, x7, x8 => if x8 < x7 then (if 0 ≤ x8 then (if x8 < (x0.length : Int) then (if x1 = (rd x0 x8) then (some x8) else (slices_Index_byte_byte.l0 k x0 x1 x7 (wrap64 (x8 + 1)))) else (none)) else (none)) else (some (-1))
def slices_Index_byte_byte.f (k : Nat) (l0 : List Int) (a1 : Int) : Option (Int) := slices_Index_byte_byte.l0 k l0 a1 (l0.length : Int) 0
theorem slices_Index_byte_byte.mono_l : ∀ k, (∀ y0 y1 y2 y3, LeO (slices_Index_byte_byte.l0 k y0 y1 y2 y3) (slices_Index_byte_byte.l0 (k + 1) y0 y1 y2 y3))
  | 0 => fun _ _ _ _ r h => by simp [slices_Index_byte_byte.l0] at h
  | k + 1 => by
    have ih0 := slices_Index_byte_byte.mono_l k
    · intro y0 y1 y2 y3
      unfold slices_Index_byte_byte.l0
      repeat' first
      | (with_reducible exact ih0 _ _ _ _)
      | (with_reducible exact LeO.refl _)
      | (with_reducible exact LeO.none _)
      | (with_reducible refine LeO.ite ?_ ?_)
      | (with_reducible refine LeO.bind ?_ (fun _ => ?_))
      | exact ih0 _ _ _ _
      | exact LeO.none _
      | refine LeO.ite ?_ ?_
      | refine LeO.bind ?_ (fun _ => ?_)
theorem slices_Index_byte_byte.mono : ∀ a0 a1 k, LeO (slices_Index_byte_byte.f k a0 a1) (slices_Index_byte_byte.f (k + 1) a0 a1) := by
  intro a0 a1 k; have ih0 := slices_Index_byte_byte.mono_l k
  unfold slices_Index_byte_byte.f
  repeat' first
      | (with_reducible exact ih0 _ _ _ _)
      | (with_reducible exact LeO.refl _)
      | (with_reducible exact LeO.none _)
      | (with_reducible refine LeO.ite ?_ ?_)
      | (with_reducible refine LeO.bind ?_ (fun _ => ?_))
      | exact ih0 _ _ _ _
      | exact LeO.none _
      | refine LeO.ite ?_ ?_
      | refine LeO.bind ?_ (fun _ => ?_)
set_option maxHeartbeats 8000000 in
set_option maxRecDepth 100000 in
theorem slices_Index_byte_byte.calls (k : Nat) (A0 : Option Addr) (c0 : Nat) (l0 : List Int) (a1 : Int) (r : Int) (w : World) (hr0 : Kd.C (Kd.int .u8) w A0 l0.length l0) (hc0 : l0.length ≤ c0) (h : slices_Index_byte_byte.f k l0 a1 = some r) :
    Calls Try.prog 59 #[.slice A0 l0.length c0, .int .u8 a1] w fun e w' => e = .returned (.int .i64 r) ∧ Drawn0 w w' := by
  have bo := Aside0.mk hr0; have bv := Aside0.mk hc0; clear hr0 hc0; have H : (slices_Index_byte_byte.l0 k l0 a1 (l0.length : Int) 0) = some r := h; clear h; have H' := Aside0.mk H; clear H
  go_enter Try.func59, Try.ntmps59
  go_wp2
  go_loopg [8] k (fun kq v8 w' => ∃ (ba : Int), v8 = .int .i64 ba ∧ Aside0 (slices_Index_byte_byte.l0 kq l0 a1 (l0.length : Int) ba = some r) ∧ Aside0 (kq ≤ k) ∧ Drawn0 w w')
  case atStart => exact ⟨(0), (by first | rfl | (simp; done) | (simp [*]; done)), H', ⟨Nat.le_refl _⟩, by repeat (first | exact Drawn0.refl _ | apply Drawn0.step)⟩
  case round =>
    clear H'; try clear p2
    obtain ⟨ba, rfl, HA, bw, ⟨m1, rfl⟩⟩ := hrel
    cases gk with
    | zero => exact absurd HA.out (by simp [slices_Index_byte_byte.l0])
    | succ k1 =>
      have H := HA.out; clear HA; simp only [slices_Index_byte_byte.l0] at H
      by_cases c3 : ba < (l0.length : Int)
      · rw [if_pos c3] at H
        have c3b0 : decide (ba < (l0.length : Int)) = true := decide_eq_true c3; clear c3
        by_cases c4 : 0 ≤ ba
        · rw [if_pos c4] at H
          have c4b0 : decide (0 ≤ ba) = true := decide_eq_true c4; clear c4
          by_cases c5 : ba < (l0.length : Int)
          · rw [if_pos c5] at H
            have c5b0 : decide (ba < (l0.length : Int)) = true := decide_eq_true c5; clear c5
            by_cases c6 : a1 = (rd l0 ba)
            · rw [if_pos c6] at H
              have c6b0 : (a1 == (rd l0 ba)) = true := beq_iff_eq.mpr c6; have c6b1 : (a1 != (rd l0 ba)) = false := bne_eq_false_iff_eq.mpr c6; clear c6; obtain rfl := Option.some.inj H; have p108 : 0 ≤ (ba : Int) := of_decide_eq_true (by first | (with_reducible assumption) | assumption); have q108 : ba < (l0.length : Int) := of_decide_eq_true (by first | (with_reducible assumption) | assumption); obtain ⟨bO, e108, bP⟩ := Kd.at_int bo.out ba p108 q108
              cases e108
              replace p108 := eq_true p108; replace q108 := eq_true q108; go_wp2
              go_ret
              exact ⟨by first | rfl | (simp; done) | (simp [*]; done), by repeat (first | exact Drawn0.refl _ | apply Drawn0.step)⟩
            · rw [if_neg c6] at H
              have c6b0 : (a1 == (rd l0 ba)) = false := beq_eq_false_iff_ne.mpr c6; have c6b1 : (a1 != (rd l0 ba)) = true := bne_iff_ne.mpr c6; have H' := Aside0.mk H; clear H; have p108 : 0 ≤ (ba : Int) := of_decide_eq_true (by first | (with_reducible assumption) | assumption); have q108 : ba < (l0.length : Int) := of_decide_eq_true (by first | (with_reducible assumption) | assumption); obtain ⟨bO, e108, bP⟩ := Kd.at_int bo.out ba p108 q108
              cases e108
              replace p108 := eq_true p108; replace q108 := eq_true q108; go_wp2
              go_roundg k1
              case measure => have := bw.out; omega
              case rel => exact ⟨(wrap64 (ba + 1)), (by first | rfl | (simp; done) | (simp [*]; done)), H', ⟨by have := bw.out; omega⟩, by repeat (first | exact Drawn0.refl _ | apply Drawn0.step)⟩
          · rw [if_neg c5] at H
            exact absurd H (by simp)
        · rw [if_neg c4] at H
          exact absurd H (by simp)
      · rw [if_neg c3] at H
        have c3b0 : decide (ba < (l0.length : Int)) = false := decide_eq_false c3; clear c3; obtain rfl := Option.some.inj H; go_wp2
        go_ret
        exact ⟨by first | rfl | (simp; done) | (simp [*]; done), by repeat (first | exact Drawn0.refl _ | apply Drawn0.step)⟩

/-! ### slices_Contains_byte_byte: function 53 -/
def slices_Contains_byte_byte.f (k : Nat) (l0 : List Int) (a1 : Int) : Option (Bool) := (slices_Index_byte_byte.f k l0 a1).bind fun bh => (some (decide (bh ≥ 0)))
theorem slices_Contains_byte_byte.mono : ∀ a0 a1 k, LeO (slices_Contains_byte_byte.f k a0 a1) (slices_Contains_byte_byte.f (k + 1) a0 a1) := by
  intro a0 a1 k
  unfold slices_Contains_byte_byte.f
  repeat' first
      | (with_reducible exact slices_Index_byte_byte.mono _ _ _)
      | (with_reducible exact LeO.refl _)
      | (with_reducible exact LeO.none _)
      | (with_reducible refine LeO.ite ?_ ?_)
      | (with_reducible refine LeO.bind ?_ (fun _ => ?_))
      | exact slices_Index_byte_byte.mono _ _ _
      | exact LeO.none _
      | refine LeO.ite ?_ ?_
      | refine LeO.bind ?_ (fun _ => ?_)
set_option maxHeartbeats 8000000 in
set_option maxRecDepth 100000 in
theorem slices_Contains_byte_byte.calls (k : Nat) (A0 : Option Addr) (c0 : Nat) (l0 : List Int) (a1 : Int) (r : Bool) (w : World) (hr0 : Kd.C (Kd.int .u8) w A0 l0.length l0) (hc0 : l0.length ≤ c0) (h : slices_Contains_byte_byte.f k l0 a1 = some r) :
    Calls Try.prog 53 #[.slice A0 l0.length c0, .int .u8 a1] w fun e w' => e = .returned (.bool r) ∧ Drawn0 w w' := by
  have bo := Aside0.mk hr0; have bv := Aside0.mk hc0; clear hr0 hc0; have H : ((slices_Index_byte_byte.f k l0 a1).bind fun bh => (some (decide (bh ≥ 0)))) = some r := h; clear h; replace H := Option.bind_eq_some_iff.mp H; obtain ⟨bh, A30, H⟩ := H; replace H : (some (decide (bh ≥ 0))) = some r := H; have A3 := Aside0.mk A30; clear A30; obtain rfl := Option.some.inj H
  go_enter Try.func53, Try.ntmps53
  go_wp2_with (first | ((with_reducible refine gate_callee (f := 59) rfl ?_); refine goesM (some 7) rfl rfl Try.func59 (by kernel_rfl) rfl #[.slice A0 l0.length c0, .int .u8 a1] rfl ?_; (with_reducible refine (slices_Index_byte_byte.calls k _ _ l0 a1 bh _ ?side1 ?side2 A3.out).mono ?_); (case side1 => exact nC bo); (case side2 => exact bv.out); rintro e w' ⟨rfl, ⟨nd, rfl⟩⟩; refine ⟨_, rfl, ?_⟩))
  go_ret
  exact ⟨by first | rfl | (simp; done) | (simp [*]; done), by repeat (first | exact Drawn0.refl _ | apply Drawn0.step)⟩

/-! ### impl_hasPart: function 35 -/
theorem impl_hasPart.reads (W : World) (s : ByteArray) (g : Nat) (hg : g = W.heap.size) (hs : s.size ≤ 9223372036854775807) : Kd.C (Kd.int .u8) (Lib.bytesWorld W 5 s) (some ⟨g, 0, none⟩) s.size (bytesOf s) := by
  subst hg; obtain ⟨h1, h2, h3⟩ := bytes_reads W 5 s hs; refine ⟨h1, h2, fun hp => ?_⟩; obtain ⟨ad, e, hc⟩ := h3 hp; refine ⟨ad, e, fun j p hj => ⟨[.int .u8 p], rfl, rfl, fun i u hu => ?_⟩⟩
  have hi : i = 0 := by
    cases i with
    | zero => rfl
    | succ i => simp at hu
  subst hi; obtain rfl : Value.int .u8 p = u := by simpa using hu
  have hjl : j < s.size := by
    rw [← h1]; exact (List.getElem?_eq_some_iff.1 hj).1
  have h4 := hc j hjl; rw [List.getD_eq_getElem?_getD, hj] at h4; have h5 : j * (Kd.int .u8).sz + 0 = j := Nat.mul_one j; rw [h5]; exact h4
def impl_hasPart.f (k : Nat) (a0_0 : Int) (a0_1 : Int) (a0_2 : Int) (a0_3 : Int) (a0_4 : Int) (a1 : Int) : Option (Bool) := (impl_formOf.f k a0_0).bind fun bt => (if bt.1.size ≤ 9223372036854775807 then slices_Contains_byte_byte.f k (bytesOf bt.1) a1 else none)
theorem impl_hasPart.mono : ∀ a0 a1 a2 a3 a4 a5 k, LeO (impl_hasPart.f k a0 a1 a2 a3 a4 a5) (impl_hasPart.f (k + 1) a0 a1 a2 a3 a4 a5) := by
  intro a0 a1 a2 a3 a4 a5 k
  unfold impl_hasPart.f
  refine LeO.bind ?_ (fun _ => ?_)
  · first | exact impl_formOf.mono _ _ | exact LeO.refl _
  · refine LeO.ite ?_ ?_
    · first | exact slices_Contains_byte_byte.mono _ _ _ | exact LeO.refl _
    · exact LeO.none _
set_option maxHeartbeats 8000000 in
set_option maxRecDepth 100000 in
theorem impl_hasPart.calls (k : Nat) (a0_0 : Int) (a0_1 : Int) (a0_2 : Int) (a0_3 : Int) (a0_4 : Int) (a1 : Int) (r : Bool) (w : World) (h : impl_hasPart.f k a0_0 a0_1 a0_2 a0_3 a0_4 a1 = some r) :
  Calls Try.prog 35 #[.agg #[.int .i64 a0_0, .int .i64 a0_1, .int .i64 a0_2, .int .i64 a0_3, .int .i64 a0_4], .int .u8 a1] w fun e w' => e = .returned (.bool r) ∧ Below w.heap.size w w' := by
 obtain ⟨⟨s, b⟩, A80, H⟩ := Option.bind_eq_some_iff.mp h; have A8 := Aside0.mk A80; clear A80 h; replace H : (if s.size ≤ 9223372036854775807 then slices_Contains_byte_byte.f k (bytesOf s) a1 else none) = some r := H
 by_cases hs : s.size ≤ 9223372036854775807
 · rw [if_pos hs] at H
   have HC : Aside0 (∀ (W : World) (ad : Option Addr) (c : Nat), Kd.C (Kd.int .u8) W ad s.size (bytesOf s) → s.size ≤ c → Calls Try.prog 53 #[.slice ad s.size c, .int .u8 a1] W fun e w' => e = .returned (.bool r) ∧ Drawn0 W w') := by
     refine ⟨fun W ad c h1 h2 => ?_⟩; rw [← bytesOf_length s] at h1 h2 ⊢; exact slices_Contains_byte_byte.calls k ad c (bytesOf s) a1 r W h1 h2 H
   clear H; have HS := Aside0.mk hs; clear hs; have kb := fun (W : World) => print_bytes (P := Try.prog) 9 42 5 Try.underlying9 Try.underlying42 Try.underlying5 s W
   have HB := Aside0.mk (Below.refl w.heap.size w)
   go_enter Try.func35, Try.ntmps35
   go_wp2_with (first | (go_at_call 38; refine (impl_formOf.calls k a0_0 s b _ A8.out).mono ?_; rintro e w' ⟨rfl, ⟨nd, rfl⟩⟩) | (go_at_call 53; refine (HC.out _ _ _ ?hrd (grownCap_ge _ _ _ _)).mono ?_; (case hrd => exact impl_hasPart.reads _ s _ (by simp) HS.out); rintro e w' ⟨rfl, ⟨nd2, rfl⟩⟩))
   go_ret
   refine ⟨rfl, ?_⟩; exact pw_below_drewN (bytes_below (pw_below_drewN (below_alloc HB.out _) _) (below_size (pw_below_drewN (below_alloc HB.out _) _)) _ _) _
 · rw [if_neg hs] at H
   exact absurd H (by simp)

/-! ### impl_Sets: function 12 -/
def impl_Sets.f (k : Nat) (a0_0 : Int) (a0_1 : Int) (a0_2 : Int) (a0_3 : Int) (a0_4 : Int) : Option (Int) := (impl_hasPart.f k a0_0 a0_1 a0_2 a0_3 a0_4 82).bind fun bi => (if bi = true then (some a0_1) else (some (-1)))
theorem impl_Sets.mono : ∀ a0 a1 a2 a3 a4 k, LeO (impl_Sets.f k a0 a1 a2 a3 a4) (impl_Sets.f (k + 1) a0 a1 a2 a3 a4) := by
  intro a0 a1 a2 a3 a4 k
  unfold impl_Sets.f
  repeat' first
      | (with_reducible exact impl_hasPart.mono _ _ _ _ _ _ _)
      | (with_reducible exact LeO.refl _)
      | (with_reducible exact LeO.none _)
      | (with_reducible refine LeO.ite ?_ ?_)
      | (with_reducible refine LeO.bind ?_ (fun _ => ?_))
      | exact impl_hasPart.mono _ _ _ _ _ _ _
      | exact LeO.none _
      | refine LeO.ite ?_ ?_
      | refine LeO.bind ?_ (fun _ => ?_)
set_option maxHeartbeats 8000000 in
set_option maxRecDepth 100000 in
theorem impl_Sets.calls (k : Nat) (a0_0 : Int) (a0_1 : Int) (a0_2 : Int) (a0_3 : Int) (a0_4 : Int) (r : Int) (w : World) (h : impl_Sets.f k a0_0 a0_1 a0_2 a0_3 a0_4 = some r) :
    Calls Try.prog 12 #[.agg #[.int .i64 a0_0, .int .i64 a0_1, .int .i64 a0_2, .int .i64 a0_3, .int .i64 a0_4]] w fun e w' => e = .returned (.int .i64 r) ∧ Below w.heap.size w w' := by
  have hu25 := Try.underlying25; have HB := Aside0.mk (Below.refl w.heap.size w); have H : ((impl_hasPart.f k a0_0 a0_1 a0_2 a0_3 a0_4 82).bind fun bi => (if bi = true then (some a0_1) else (some (-1)))) = some r := h; clear h; replace H := Option.bind_eq_some_iff.mp H; obtain ⟨bi, A20, H⟩ := H; replace H : (if bi = true then (some a0_1) else (some (-1))) = some r := H; have A2 := Aside0.mk A20; clear A20
  by_cases c3 : bi = true
  · subst c3
    have H1 : (some a0_1) = some r := by rw [if_pos rfl] at H; exact H
    clear H; have H := H1; clear H1; obtain rfl := Option.some.inj H
    go_enter Try.func12, Try.ntmps12
    go_wp2_with (first | ((with_reducible refine gate_dst (N := 1) rfl ?_); refine bxe 1 #[.int .i64 a0_0, .int .i64 a0_1, .int .i64 a0_2, .int .i64 a0_3, .int .i64 a0_4] 25 ?_; intro bQ hg w4 hbox hb; have bf := hbox; have bR := nge HB hg; have bS := nge HB hg; replace HB := nbs HB hb; clear hb hbox hg; obtain ⟨bC, bD, bE, bF, bG⟩ := c5e bf; obtain ⟨bH, bI, bJ, bK, bL⟩ := z5_ bf) | ((with_reducible refine gate_callee (f := 35) rfl ?_); refine goesM (some 4) rfl rfl Try.func35 (by kernel_rfl) rfl #[.agg #[.int .i64 a0_0, .int .i64 a0_1, .int .i64 a0_2, .int .i64 a0_3, .int .i64 a0_4], .int .u8 82] rfl ?_; (with_reducible refine (impl_hasPart.calls k a0_0 a0_1 a0_2 a0_3 a0_4 82 true _ A2.out).mono ?_); rintro e w6 ⟨rfl, hb⟩; refine ⟨_, rfl, ?_⟩; replace bf := nblk bf hb; replace HB := nbs HB hb; (try clear hb); obtain ⟨dj, dk, dl, dm, dn⟩ := c5e bf; obtain ⟨dp, dq, dr, ds, dt⟩ := z5_ bf))
    go_ret
    exact ⟨er_, nbe HB⟩
  · replace c3 := Bool.eq_false_iff.mpr c3
    subst c3; have H1 : (some (-1)) = some r := by rw [if_neg (show ¬ (false = true) by decide)] at H; exact H
    clear H; have H := H1; clear H1; obtain rfl := Option.some.inj H
    go_enter Try.func12, Try.ntmps12
    go_wp2_with (first | ((with_reducible refine gate_dst (N := 1) rfl ?_); refine bxe 1 #[.int .i64 a0_0, .int .i64 a0_1, .int .i64 a0_2, .int .i64 a0_3, .int .i64 a0_4] 25 ?_; intro bQ hg w8 hbox hb; have bf := hbox; have bR := nge HB hg; have bS := nge HB hg; replace HB := nbs HB hb; clear hb hbox hg; obtain ⟨du, dv, dw, dx, dy⟩ := c5e bf; obtain ⟨dz, dA, dB, dC, dD⟩ := z5_ bf) | ((with_reducible refine gate_callee (f := 35) rfl ?_); refine goesM (some 4) rfl rfl Try.func35 (by kernel_rfl) rfl #[.agg #[.int .i64 a0_0, .int .i64 a0_1, .int .i64 a0_2, .int .i64 a0_3, .int .i64 a0_4], .int .u8 82] rfl ?_; (with_reducible refine (impl_hasPart.calls k a0_0 a0_1 a0_2 a0_3 a0_4 82 false _ A2.out).mono ?_); rintro e dE ⟨rfl, hb⟩; refine ⟨_, rfl, ?_⟩; replace bf := nblk bf hb; replace HB := nbs HB hb; (try clear hb)))
    go_ret
    exact ⟨er_, nbe HB⟩

/-! ### spec_l6Field: function 37 -/
def spec_l6Field.f (a0 : Int) (a1 : Bool) : Option (Bool) := (spec_l1In.f a0 0 7).bind fun bj => (if bj = true then (if a1 = true then (some true) else (some (a0 == 0))) else (some false))
set_option maxHeartbeats 8000000 in
set_option maxRecDepth 100000 in
theorem spec_l6Field.calls (a0 : Int) (a1 : Bool) (r : Bool) (w : World) (h : spec_l6Field.f a0 a1 = some r) :
    Calls Try.prog 37 #[.int .i64 a0, .bool a1] w fun e w' => e = .returned (.bool r) ∧ Drawn0 w w' := by
  have H : ((spec_l1In.f a0 0 7).bind fun bj => (if bj = true then (if a1 = true then (some true) else (some (a0 == 0))) else (some false))) = some r := h; clear h; replace H := Option.bind_eq_some_iff.mp H; obtain ⟨bj, A30, H⟩ := H; replace H : (if bj = true then (if a1 = true then (some true) else (some (a0 == 0))) else (some false)) = some r := H; have A3 := Aside0.mk A30; clear A30
  by_cases c4 : bj = true
  · subst c4
    have H1 : (if a1 = true then (some true) else (some (a0 == 0))) = some r := by rw [if_pos rfl] at H; exact H
    clear H; have H := H1; clear H1
    by_cases c5 : a1 = true
    · subst c5
      have H1 : (some true) = some r := by rw [if_pos rfl] at H; exact H
      clear H; have H := H1; clear H1; obtain rfl := Option.some.inj H
      go_enter Try.func37, Try.ntmps37
      go_wp2_with (first | ((with_reducible refine gate_callee (f := 36) rfl ?_); refine goesM (some 6) rfl rfl Try.func36 (by kernel_rfl) rfl #[.int .i64 a0, .int .i64 0, .int .i64 7] rfl ?_; (with_reducible refine (spec_l1In.calls a0 0 7 true _ A3.out).mono ?_); rintro e w' ⟨rfl, ⟨nd, rfl⟩⟩; refine ⟨_, rfl, ?_⟩))
      go_ret
      exact ⟨by first | rfl | (simp; done) | (simp [*]; done), by repeat (first | exact Drawn0.refl _ | apply Drawn0.step)⟩
    · replace c5 := Bool.eq_false_iff.mpr c5
      subst c5; have H1 : (some (a0 == 0)) = some r := by rw [if_neg (show ¬ (false = true) by decide)] at H; exact H
      clear H; have H := H1; clear H1; obtain rfl := Option.some.inj H
      go_enter Try.func37, Try.ntmps37
      go_wp2_with (first | ((with_reducible refine gate_callee (f := 36) rfl ?_); refine goesM (some 6) rfl rfl Try.func36 (by kernel_rfl) rfl #[.int .i64 a0, .int .i64 0, .int .i64 7] rfl ?_; (with_reducible refine (spec_l1In.calls a0 0 7 true _ A3.out).mono ?_); rintro e w' ⟨rfl, ⟨nd, rfl⟩⟩; refine ⟨_, rfl, ?_⟩))
      go_ret
      exact ⟨by first | rfl | (simp; done) | (simp [*]; done), by repeat (first | exact Drawn0.refl _ | apply Drawn0.step)⟩
  · replace c4 := Bool.eq_false_iff.mpr c4
    subst c4; have H1 : (some false) = some r := by rw [if_neg (show ¬ (false = true) by decide)] at H; exact H
    clear H; have H := H1; clear H1; obtain rfl := Option.some.inj H
    go_enter Try.func37, Try.ntmps37
    go_wp2_with (first | ((with_reducible refine gate_callee (f := 36) rfl ?_); refine goesM (some 6) rfl rfl Try.func36 (by kernel_rfl) rfl #[.int .i64 a0, .int .i64 0, .int .i64 7] rfl ?_; (with_reducible refine (spec_l1In.calls a0 0 7 false _ A3.out).mono ?_); rintro e w' ⟨rfl, ⟨nd, rfl⟩⟩; refine ⟨_, rfl, ?_⟩))
    go_ret
    exact ⟨by first | rfl | (simp; done) | (simp [*]; done), by repeat (first | exact Drawn0.refl _ | apply Drawn0.step)⟩

end Go.Proofs.Ytopbiecjfhfhdaa.PFnCodes
