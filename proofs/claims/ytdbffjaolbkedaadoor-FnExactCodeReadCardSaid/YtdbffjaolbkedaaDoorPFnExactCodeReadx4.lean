-- Written by a program of this session (wip/patch.py turns a copy of the kit's print): the functions that the law reaches, and their walks.
import Derived.Test.YtdbffjaolbkedaaDoorShelf
import Derived.Lib.SmallJoins
import Derived.Lib.LaidTab
import Derived.Lib.ItoaNum
import Derived.Test.YtdbffjaolbkedaaDoorPFnExactCodeReadx0
import Derived.Test.YtdbffjaolbkedaaDoorPFnExactCodeReadx2
import Derived.Test.YtdbffjaolbkedaaDoorPFnExactCodeReadx3
import Derived.Test.YtdbffjaolbkedaaDoorCFnExactCodeRead
namespace Go.Proofs.YtdbffjaolbkedaaDoor.PFnExactCodeRead
open Go.RowKit Go.Proofs.YtdbffjaolbkedaaDoorW.PrintWords Go.Proofs.YtdbffjaolbkedaaDoorW.PrintLast Go.Proofs.YtdbffjaolbkedaaDoorW.PrintMore Go.Proofs.YtdbffjaolbkedaaDoorW.Mine
attribute [local go_sem] max2_int min2_int max_two min_two max_three min_three max_four min_four   -- for this text's walks alone
set_option linter.unusedVariables false
set_option linter.unusedSimpArgs false

/-! ### spec_CodeText: function 26 -/
def spec_CodeText.l0 : Nat → List (S23) → ByteArray → Int → Option (ByteArray)
  | 0, _, _, _ => none
  | k + 1, x0, x3, x4 => if x4 < (x0.length : Int) then ((spec_CodeOk.f k x0).bind fun bG => (if bG = true then (if 0 ≤ x4 then ((spec_InsText.f k ((rd_T23 x0 x4).f0) ((rd_T23 x0 x4).f1) ((rd_T23 x0 x4).f2) ((rd_T23 x0 x4).f3) ((rd_T23 x0 x4).f4)).bind fun bd => (if x3.size + bd.size ≤ 9223372036854775807 then (if (x3 ++ bd).size + 1 ≤ 9223372036854775807 then (spec_CodeText.l0 k x0 ((x3 ++ bd) ++ (⟨#[10]⟩ : ByteArray)) (wrap64 (x4 + 1))) else (none)) else (none))) else (none)) else (some x3))) else (some x3)
def spec_CodeText.f (k : Nat) (l0 : List (S23)) : Option (ByteArray) := spec_CodeText.l0 k l0 (⟨#[]⟩ : ByteArray) 0
theorem spec_CodeText.mono_l : ∀ k, (∀ y0 y1 y2, LeO (spec_CodeText.l0 k y0 y1 y2) (spec_CodeText.l0 (k + 1) y0 y1 y2))
  | 0 => fun _ _ _ r h => by simp [spec_CodeText.l0] at h
  | k + 1 => by
    have ih0 := spec_CodeText.mono_l k
    · intro y0 y1 y2
      unfold spec_CodeText.l0
      repeat' first
      | (with_reducible exact ih0 _ _ _)
      | (with_reducible exact spec_CodeOk.mono _ _)
      | (with_reducible exact spec_InsText.mono _ _ _ _ _ _)
      | (with_reducible exact LeO.refl _)
      | (with_reducible exact LeO.none _)
      | (with_reducible refine LeO.ite ?_ ?_)
      | (with_reducible refine LeO.bind ?_ (fun _ => ?_))
      | exact ih0 _ _ _
      | exact spec_CodeOk.mono _ _
      | exact spec_InsText.mono _ _ _ _ _ _
      | exact LeO.none _
      | refine LeO.ite ?_ ?_
      | refine LeO.bind ?_ (fun _ => ?_)
theorem spec_CodeText.mono : ∀ a0 k, LeO (spec_CodeText.f k a0) (spec_CodeText.f (k + 1) a0) := by
  intro a0 k; have ih0 := spec_CodeText.mono_l k
  unfold spec_CodeText.f
  repeat' first
      | (with_reducible exact ih0 _ _ _)
      | (with_reducible exact spec_CodeOk.mono _ _)
      | (with_reducible exact spec_InsText.mono _ _ _ _ _ _)
      | (with_reducible exact LeO.refl _)
      | (with_reducible exact LeO.none _)
      | (with_reducible refine LeO.ite ?_ ?_)
      | (with_reducible refine LeO.bind ?_ (fun _ => ?_))
      | exact ih0 _ _ _
      | exact spec_CodeOk.mono _ _
      | exact spec_InsText.mono _ _ _ _ _ _
      | exact LeO.none _
      | refine LeO.ite ?_ ?_
      | refine LeO.bind ?_ (fun _ => ?_)
set_option maxHeartbeats 8000000 in
set_option maxRecDepth 100000 in
theorem spec_CodeText.calls (k : Nat) (A0 : Option Addr) (c0 : Nat) (l0 : List (S23)) (r : ByteArray) (w : World) (hr0 : Kd.C k23 w A0 l0.length l0) (hc0 : l0.length ≤ c0) (h : spec_CodeText.f k l0 = some r) :
    Calls Tryd.prog 26 #[.slice A0 l0.length c0] w fun e w' => e = .returned (.string r) ∧ Below w.heap.size w w' := by
  have hu23 := Tryd.underlying23; have br := Aside0.mk hr0; have bH := Aside0.mk hc0; clear hr0 hc0; have HB := Aside0.mk (Below.refl w.heap.size w); have H : (spec_CodeText.l0 k l0 (⟨#[]⟩ : ByteArray) 0) = some r := h; clear h; have H' := Aside0.mk H; clear H
  go_enter Tryd.func26, Tryd.ntmps26
  go_wp2
  go_loopg [3, 4] k (fun kq v3 v4 w' => ∃ (bg : ByteArray) (ba : Int), v3 = .string bg ∧ v4 = .int .i64 ba ∧ Aside0 (spec_CodeText.l0 kq l0 bg ba = some r) ∧ Aside0 (kq ≤ k) ∧ Aside0 (Below w.heap.size w w'))
  case atStart => exact ⟨((⟨#[]⟩ : ByteArray)), (0), (by first | rfl | (simp; done) | (simp [*]; done)), (by first | rfl | (simp; done) | (simp [*]; done)), H', ⟨Nat.le_refl _⟩, ⟨nbe HB⟩⟩
  case round =>
    clear H'; obtain ⟨bg, ba, rfl, rfl, HA, bp, HB⟩ := hrel
    cases gk with
    | zero => exact absurd HA.out (by simp [spec_CodeText.l0])
    | succ k1 =>
      have H := HA.out; clear HA; simp only [spec_CodeText.l0] at H
      by_cases c2 : ba < (l0.length : Int)
      · rw [if_pos c2] at H
        have c2b0 : decide (ba < (l0.length : Int)) = true := decide_eq_true c2; clear c2; replace H := Option.bind_eq_some_iff.mp H; obtain ⟨bG, A30, H⟩ := H; replace H : (if bG = true then (if 0 ≤ ba then ((spec_InsText.f k1 ((rd_T23 l0 ba).f0) ((rd_T23 l0 ba).f1) ((rd_T23 l0 ba).f2) ((rd_T23 l0 ba).f3) ((rd_T23 l0 ba).f4)).bind fun bd => (if bg.size + bd.size ≤ 9223372036854775807 then (if (bg ++ bd).size + 1 ≤ 9223372036854775807 then (spec_CodeText.l0 k1 l0 ((bg ++ bd) ++ (⟨#[10]⟩ : ByteArray)) (wrap64 (ba + 1))) else (none)) else (none))) else (none)) else (some bg)) = some r := H; have A3 := Aside0.mk A30; clear A30
        by_cases c4 : bG = true
        · subst c4
          have H1 : (if 0 ≤ ba then ((spec_InsText.f k1 ((rd_T23 l0 ba).f0) ((rd_T23 l0 ba).f1) ((rd_T23 l0 ba).f2) ((rd_T23 l0 ba).f3) ((rd_T23 l0 ba).f4)).bind fun bd => (if bg.size + bd.size ≤ 9223372036854775807 then (if (bg ++ bd).size + 1 ≤ 9223372036854775807 then (spec_CodeText.l0 k1 l0 ((bg ++ bd) ++ (⟨#[10]⟩ : ByteArray)) (wrap64 (ba + 1))) else (none)) else (none))) else (none)) = some r := by rw [if_pos rfl] at H; exact H
          clear H; have H := H1; clear H1
          by_cases c5 : 0 ≤ ba
          · rw [if_pos c5] at H
            have c5b0 : decide (0 ≤ ba) = true := decide_eq_true c5; clear c5; replace H := Option.bind_eq_some_iff.mp H; obtain ⟨bd, A60, H⟩ := H; replace H : (if bg.size + bd.size ≤ 9223372036854775807 then (if (bg ++ bd).size + 1 ≤ 9223372036854775807 then (spec_CodeText.l0 k1 l0 ((bg ++ bd) ++ (⟨#[10]⟩ : ByteArray)) (wrap64 (ba + 1))) else (none)) else (none)) = some r := H; have A6 := Aside0.mk A60; clear A60
            by_cases c7 : bg.size + bd.size ≤ 9223372036854775807
            · rw [if_pos c7] at H
              have c7b0 := eq_true c7; have c7b1 : decide (bg.size + bd.size ≤ 9223372036854775807) = true := decide_eq_true c7
              try have c7b2 : (9223372036854775807 < bg.size + bd.size) = False := eq_false (Nat.not_lt.2 c7)
              by_cases c8 : (bg ++ bd).size + 1 ≤ 9223372036854775807
              · rw [if_pos c8] at H
                have c8b0 := eq_true c8; have c8b1 : decide ((bg ++ bd).size + 1 ≤ 9223372036854775807) = true := decide_eq_true c8
                try have c8b2 : (9223372036854775807 < (bg ++ bd).size + 1) = False := eq_false (Nat.not_lt.2 c8)
                have c8b3 : (9223372036854775807 < bg.size + bd.size + 1) = False := eq_false (Nat.not_lt.2 (by have h_ := c8; simp only [ByteArray.size_append] at h_; exact h_))
                have H' := Aside0.mk H; clear H
                go_wp2_with (first | (go_at_call 38; (with_reducible refine (spec_CodeOk.calls k1 _ _ l0 true _ ?side1 ?side2 A3.out).mono ?_); (case side1 => exact nCb br HB); (case side2 => exact bH.out); rintro e w9 ⟨rfl, hb⟩; replace HB := nbs HB hb; (try clear hb); have p170 : 0 ≤ (ba : Int) := of_decide_eq_true (by first | (with_reducible assumption) | assumption); have q170 : ba < (l0.length : Int) := of_decide_eq_true (by first | (with_reducible assumption) | assumption); obtain ⟨de, e170, bI, bJ, bK, bL, bM⟩ := at_T23 br.out ba p170 q170; cases e170; replace bI := (HB.out.cell (World.block_lt_of_cell? w _ bI)).trans bI; replace bJ := (HB.out.cell (World.block_lt_of_cell? w _ bJ)).trans bJ; replace bK := (HB.out.cell (World.block_lt_of_cell? w _ bK)).trans bK; replace bL := (HB.out.cell (World.block_lt_of_cell? w _ bL)).trans bL; replace bM := (HB.out.cell (World.block_lt_of_cell? w _ bM)).trans bM; replace p170 := eq_true p170; replace q170 := eq_true q170) | ((with_reducible refine gate_callee (f := 17) rfl ?_); refine goesM (some 20) rfl rfl Tryd.func17 (by kernel_rfl) rfl #[.agg #[.int .i64 ((rd_T23 l0 ba).f0), .int .i64 ((rd_T23 l0 ba).f1), .int .i64 ((rd_T23 l0 ba).f2), .int .i64 ((rd_T23 l0 ba).f3), .int .i64 ((rd_T23 l0 ba).f4)]] rfl ?_; (with_reducible refine (spec_InsText.calls k1 ((rd_T23 l0 ba).f0) ((rd_T23 l0 ba).f1) ((rd_T23 l0 ba).f2) ((rd_T23 l0 ba).f3) ((rd_T23 l0 ba).f4) bd _ A6.out).mono ?_); rintro e df ⟨rfl, hb⟩; refine ⟨_, rfl, ?_⟩; replace HB := nbs HB hb; (try clear hb)))
                go_roundg k1
                case measure => have := bp.out; omega
                case rel => exact ⟨((bg ++ bd) ++ (⟨#[10]⟩ : ByteArray)), (wrap64 (ba + 1)), (by first | rfl | (simp; done) | (simp [*]; done)), (by first | rfl | (simp; done) | (simp [*]; done)), H', ⟨by have := bp.out; omega⟩, ⟨nbe HB⟩⟩
              · rw [if_neg c8] at H
                exact absurd H (by simp)
            · rw [if_neg c7] at H
              exact absurd H (by simp)
          · rw [if_neg c5] at H
            exact absurd H (by simp)
        · replace c4 := Bool.eq_false_iff.mpr c4
          subst c4; have H1 : (some bg) = some r := by rw [if_neg (show ¬ (false = true) by decide)] at H; exact H
          clear H; have H := H1; clear H1; obtain rfl := Option.some.inj H
          go_wp2_with (first | (go_at_call 38; (with_reducible refine (spec_CodeOk.calls k1 _ _ l0 false _ ?side1 ?side2 A3.out).mono ?_); (case side1 => exact nCb br HB); (case side2 => exact bH.out); rintro e dg ⟨rfl, hb⟩; replace HB := nbs HB hb; (try clear hb)))
          go_ret
          exact ⟨er_, nbe HB⟩
      · rw [if_neg c2] at H
        have c2b0 : decide (ba < (l0.length : Int)) = false := decide_eq_false c2; clear c2; obtain rfl := Option.some.inj H; go_wp2
        go_ret
        exact ⟨er_, nbe HB⟩

/-! ### spec_CodeRead: function 8 -/
def spec_CodeRead.l0 : Nat → ByteArray → List (S23) → Int → Int → Option ((List (S23)) × Bool)
  | 0, _, _, _, _ => none
  | k + 1, x0, x4, x5, x6 => if x6 < (x0.size : Int) then (if 0 ≤ x6 then (if (bt x0 x6) = 10 then (if 0 ≤ x5 then (if x5 ≤ x6 then (if x6 ≤ (x0.size : Int) then ((spec_InsRead.f k (x0.extract (x5 : Int).toNat (x6 : Int).toNat)).bind fun bs => (if bs.2.2.2.2.2 = true then (if x4.length < 3518437208883 then (spec_CodeRead.l0 k x0 (x4 ++ [(⟨bs.1, bs.2.1, bs.2.2.1, bs.2.2.2.1, bs.2.2.2.2.1⟩ : S23)]) (wrap64 (x6 + 1)) (wrap64 (x6 + 1))) else (none)) else (some ((([] : List (S23))), false)))) else (none)) else (none)) else (none)) else (spec_CodeRead.l0 k x0 x4 x5 (wrap64 (x6 + 1)))) else (none)) else (if x0.toList = ([] : List UInt8) then (some ((([] : List (S23))), false)) else ((spec_CodeText.f k x4).bind fun bq => (if bq.toList = x0.toList then (some (x4, true)) else (some ((([] : List (S23))), false)))))
def spec_CodeRead.f (k : Nat) (a0 : ByteArray) : Option ((List (S23)) × Bool) := spec_CodeRead.l0 k a0 (([] : List (S23))) 0 0
theorem spec_CodeRead.mono_l : ∀ k, (∀ y0 y1 y2 y3, LeO (spec_CodeRead.l0 k y0 y1 y2 y3) (spec_CodeRead.l0 (k + 1) y0 y1 y2 y3))
  | 0 => fun _ _ _ _ r h => by simp [spec_CodeRead.l0] at h
  | k + 1 => by
    have ih0 := spec_CodeRead.mono_l k
    · intro y0 y1 y2 y3
      unfold spec_CodeRead.l0
      repeat' first
      | (with_reducible exact ih0 _ _ _ _)
      | (with_reducible exact spec_CodeText.mono _ _)
      | (with_reducible exact spec_InsRead.mono _ _)
      | (with_reducible exact LeO.refl _)
      | (with_reducible exact LeO.none _)
      | (with_reducible refine LeO.ite ?_ ?_)
      | (with_reducible refine LeO.bind ?_ (fun _ => ?_))
      | exact ih0 _ _ _ _
      | exact spec_CodeText.mono _ _
      | exact spec_InsRead.mono _ _
      | exact LeO.none _
      | refine LeO.ite ?_ ?_
      | refine LeO.bind ?_ (fun _ => ?_)
theorem spec_CodeRead.mono : ∀ a0 k, LeO (spec_CodeRead.f k a0) (spec_CodeRead.f (k + 1) a0) := by
  intro a0 k; have ih0 := spec_CodeRead.mono_l k
  unfold spec_CodeRead.f
  repeat' first
      | (with_reducible exact ih0 _ _ _ _)
      | (with_reducible exact spec_CodeText.mono _ _)
      | (with_reducible exact spec_InsRead.mono _ _)
      | (with_reducible exact LeO.refl _)
      | (with_reducible exact LeO.none _)
      | (with_reducible refine LeO.ite ?_ ?_)
      | (with_reducible refine LeO.bind ?_ (fun _ => ?_))
      | exact ih0 _ _ _ _
      | exact spec_CodeText.mono _ _
      | exact spec_InsRead.mono _ _
      | exact LeO.none _
      | refine LeO.ite ?_ ?_
      | refine LeO.bind ?_ (fun _ => ?_)
set_option maxHeartbeats 8000000 in
set_option maxRecDepth 100000 in
theorem spec_CodeRead.calls (k : Nat) (a0 : ByteArray) (r1 : List (S23)) (r2 : Bool) (w : World) (h : spec_CodeRead.f k a0 = some (r1, r2)) :
    Calls Tryd.prog 8 #[.string a0] w fun e w' => ∃ v0_ : Value, e = .returned (.tuple #[v0_, .bool r2]) ∧ Kd.R k23 23 w' w.heap.size (fun _ => True) v0_ r1 ∧ Below w.heap.size w w' := by
  have hu23 := Tryd.underlying23; have HB := Aside0.mk (Below.refl w.heap.size w); have H : (spec_CodeRead.l0 k a0 (([] : List (S23))) 0 0) = some (r1, r2) := h; clear h; obtain ⟨bN, bx⟩ : ∃ y_ : List (S23), y_ = (([] : List (S23))) := ⟨_, rfl⟩; replace H : (spec_CodeRead.l0 k a0 bN 0 0) = some (r1, r2) := by first | (rw [bx]; with_reducible exact H) | (have H2_ := (Option.bind_some _ _).symm.trans H; rw [bx]; with_reducible exact H2_) | (have H2_ := (Option.bind_some _ _).symm.trans H; with_reducible exact H2_) | with_reducible exact H | (rw [bx]; exact H) | exact H
  have bO := Aside0.mk bx; clear bx; have H' := Aside0.mk H; clear H
  go_enter Tryd.func8, Tryd.ntmps8
  go_wp2_with (first | ((with_reducible refine gate_dst (N := 9) rfl ?_); refine Kd.R_lit k23 _ 23 ?hg (N := 9) ?hd (xs := ([] : List (S23))) (inner := []) (ok := fun _ => True) (okp := fun _ => True) ?hr ?hp (fun _ hk => hk) trivial (Below.refl _ _) (Nat.le_refl _) (by simp) ?_; (case hd => rfl); (case hg => rfl); (case hr => first | (go_simp; done) | (go_simp; rfl)); (case hp => exact (Reps.none _ _)); intro dh w2 bz hb hg_ hnew_; clear hg_ hnew_; (first | rw [← bO.out] at bz | (simp only [Int.reduceToNat] at bz; rw [← bO.out] at bz)); have bW := Aside0.mk (Kd.R_lower bz (bsz HB)); replace HB := nbs HB hb; clear hb bz))
  go_loopg [4, 5, 6] k (fun kq v4 v5 v6 w' => ∃ (ba : List (S23)) (bh : Int) (bb : Int), v5 = .int .i64 bh ∧ v6 = .int .i64 bb ∧ Aside0 (spec_CodeRead.l0 kq a0 ba bh bb = some (r1, r2)) ∧ Aside0 (kq ≤ k) ∧ Aside0 (Kd.R k23 23 w' w.heap.size (fun _ => True) v4 ba) ∧ Aside0 (Below w.heap.size w w'))
  case atStart => exact ⟨(bN), (0), (0), (by first | rfl | (simp; done) | (simp [*]; done)), (by first | rfl | (simp; done) | (simp [*]; done)), H', ⟨Nat.le_refl _⟩, ⟨by (with_reducible repeat (first | apply Kd.R_alloc | apply Kd.R_drewN | apply Kd.R_drew)); exact bW.out⟩, ⟨nbe HB⟩⟩
  case round =>
    clear H'; try clear p2
    obtain ⟨ba, bh, bb, rfl, rfl, HA, bp, bc, HB⟩ := hrel
    cases gk with
    | zero => exact absurd HA.out (by simp [spec_CodeRead.l0])
    | succ k1 =>
      have H := HA.out; clear HA; simp only [spec_CodeRead.l0] at H
      by_cases c4 : bb < (a0.size : Int)
      · rw [if_pos c4] at H
        have c4b0 : decide (bb < (a0.size : Int)) = true := decide_eq_true c4; clear c4
        by_cases c5 : 0 ≤ bb
        · rw [if_pos c5] at H
          have c5b0 : decide (0 ≤ bb) = true := decide_eq_true c5; clear c5
          by_cases c7 : (bt a0 bb) = 10
          · rw [if_pos c7] at H
            have c7b0 : ((bt a0 bb) == 10) = true := beq_iff_eq.mpr c7; have c7b1 : ((bt a0 bb) != 10) = false := bne_eq_false_iff_eq.mpr c7; clear c7
            by_cases c8 : 0 ≤ bh
            · rw [if_pos c8] at H
              have c8b0 := eq_true c8; have c8b1 : decide (0 ≤ bh) = true := decide_eq_true c8; clear c8
              by_cases c9 : bh ≤ bb
              · rw [if_pos c9] at H
                have c9b0 := eq_true c9; have c9b1 : decide (bh ≤ bb) = true := decide_eq_true c9; clear c9
                by_cases c10 : bb ≤ (a0.size : Int)
                · rw [if_pos c10] at H
                  have c10b0 := eq_true c10; have c10b1 : decide (bb ≤ (a0.size : Int)) = true := decide_eq_true c10; clear c10; replace H := Option.bind_eq_some_iff.mp H; obtain ⟨⟨bi, bj, bk, bl, bm, bP⟩, A110, H⟩ := H; replace H : (if bP = true then (if ba.length < 3518437208883 then (spec_CodeRead.l0 k1 a0 (ba ++ [(⟨bi, bj, bk, bl, bm⟩ : S23)]) (wrap64 (bb + 1)) (wrap64 (bb + 1))) else (none)) else (some ((([] : List (S23))), false))) = some (r1, r2) := H; have A11 := Aside0.mk A110; clear A110
                  by_cases c12 : bP = true
                  · subst c12
                    have H1 : (if ba.length < 3518437208883 then (spec_CodeRead.l0 k1 a0 (ba ++ [(⟨bi, bj, bk, bl, bm⟩ : S23)]) (wrap64 (bb + 1)) (wrap64 (bb + 1))) else (none)) = some (r1, r2) := by rw [if_pos rfl] at H; exact H
                    clear H; have H := H1; clear H1
                    by_cases c13 : ba.length < 3518437208883
                    · rw [if_pos c13] at H
                      have bX := Aside0.mk c13; clear c13; obtain ⟨bQ, bA⟩ : ∃ y_ : List (S23), y_ = (ba ++ [(⟨bi, bj, bk, bl, bm⟩ : S23)]) := ⟨_, rfl⟩; replace H : (spec_CodeRead.l0 k1 a0 bQ (wrap64 (bb + 1)) (wrap64 (bb + 1))) = some (r1, r2) := by first | (rw [bA]; with_reducible exact H) | (have H2_ := (Option.bind_some _ _).symm.trans H; rw [bA]; with_reducible exact H2_) | (have H2_ := (Option.bind_some _ _).symm.trans H; with_reducible exact H2_) | with_reducible exact H | (rw [bA]; exact H) | exact H
                      have bY := Aside0.mk bA; clear bA; have H' := Aside0.mk H; clear H; have p6 : 0 ≤ (bb : Int) := of_decide_eq_true (by first | (with_reducible assumption) | assumption); have q6 : bb < (a0.size : Int) := of_decide_eq_true (by first | (with_reducible assumption) | assumption); have bR := bt_at a0 bb; replace p6 := eq_true p6; replace q6 := eq_true q6
                      go_wp2_with (first | ((with_reducible refine gate_callee (f := 5) rfl ?_); refine goesM (some 25) rfl rfl Tryd.func5 (by kernel_rfl) rfl #[.string (a0.extract (bh : Int).toNat (bb : Int).toNat)] rfl ?_; (with_reducible refine (spec_InsRead.calls k1 (a0.extract (bh : Int).toNat (bb : Int).toNat) bi bj bk bl bm true _ A11.out).mono ?_); rintro e di ⟨rfl, hb⟩; refine ⟨_, rfl, ?_⟩; replace bc := nR bc hb; replace HB := nbs HB hb; (try clear hb)) | ((with_reducible refine gate_dst (N := 7) rfl ?_); refine bxe 7 #[.int .i64 0, .int .i64 0, .int .i64 0, .int .i64 0, .int .i64 0] 23 ?_; intro bn hg dj hbox hb; have bo := hbox; have bZ := nge HB hg; have b0 := nge HB hg; replace bc := Aside0.mk (Kd.R_below (Kd.R_elderB (nRo bc) bn (Nat.le_of_eq hg.symm)) hb); replace HB := nbs HB hb; clear hb hbox hg; obtain ⟨dk, dl, dm, dn, dp⟩ := c5e bo; obtain ⟨dq, dr, ds, dt, du⟩ := z5_ bo) | ((with_reducible refine gate_builtin (b := .append) (xs := #[.tmp 31, .tmp 33]) rfl ?_); at_builtin; refine Kd.R_append k23 (w0 := w) w.heap.size rfl (.tmp 31) (.tmp 33) 28 23 (.agg #[(.int .i64 0), (.int .i64 0), (.int .i64 0), (.int .i64 0), (.int .i64 0)]) 40 rfl Tryd.underlying28 info23 rfl (by decide) (by omega) u4 ba (⟨bi, bj, bk, bl, bm⟩ : S23) [.int .i64 bi, .int .i64 bj, .int .i64 bk, .int .i64 bl, .int .i64 bm] (fun k_ => k_ ≠ bn) (fun _ => False) rfl (by first | (go_simp; done) | (go_simp; rfl)) ?aP (fun _ hk => hk.elim) ?aF ?aO ?aB ?aS ?aL ?_; (case aP => exact k23_mkM _ _ _ (⟨bi, bj, bk, bl, bm⟩ : S23)); (case aB => exact (nbe HB)); (case aF => exact (fun k_ hk => Kd.freshB (g := bn) (o := .cells #[.int .i64 bi, .int .i64 bj, .int .i64 bk, .int .i64 bl, .int .i64 bm] 23 (0, 0)) (q5 bo) k_ hk)); (case aO => exact (by (with_reducible repeat (first | apply Kd.R_alloc | apply Kd.R_drewN | apply Kd.R_drew)); exact Kd.R_mono (eR5_ (Kd.R_mono bc.out (fun k_ hk => (⟨hk, hk.2⟩ : _ ∧ k_ ≠ bn)))) (fun _ hk => hk.1.2))); (case aS => exact (bsz HB)); (case aL => have := bX.out; omega); intro dv dw ho hb hg hat; rw [← bY.out] at ho; have b1 := Aside0.mk (ho); replace bo := Aside0.mk (blk_grown (g := bn) (o := .cells #[.int .i64 bi, .int .i64 bj, .int .i64 bk, .int .i64 bl, .int .i64 bm] 23 (0, 0)) (q5 bo) hg (Kd.R_away bc.out (fun _ hk => hk.2))); replace HB := Aside0.mk (hb); clear bc; clear ho hb hg hat))
                      go_roundg k1
                      case measure => have := bp.out; omega
                      case rel => exact ⟨(bQ), (wrap64 (bb + 1)), (wrap64 (bb + 1)), (by first | rfl | (simp; done) | (simp [*]; done)), (by first | rfl | (simp; done) | (simp [*]; done)), H', ⟨by have := bp.out; omega⟩, ⟨by (with_reducible repeat (first | apply Kd.R_alloc | apply Kd.R_drewN | apply Kd.R_drew)); exact Kd.R_mono b1.out (fun _ hk => trivial)⟩, ⟨nbe HB⟩⟩
                    · rw [if_neg c13] at H
                      exact absurd H (by simp)
                  · replace c12 := Bool.eq_false_iff.mpr c12
                    subst c12; have H1 : (some ((([] : List (S23))), false)) = some (r1, r2) := by rw [if_neg (show ¬ (false = true) by decide)] at H; exact H
                    clear H; have H := H1; clear H1; obtain ⟨b2, bB⟩ : ∃ y_ : List (S23), y_ = (([] : List (S23))) := ⟨_, rfl⟩; replace H : (some (b2, false)) = some (r1, r2) := by first | (rw [bB]; with_reducible exact H) | (have H2_ := (Option.bind_some _ _).symm.trans H; rw [bB]; with_reducible exact H2_) | (have H2_ := (Option.bind_some _ _).symm.trans H; with_reducible exact H2_) | with_reducible exact H | (rw [bB]; exact H) | exact H
                    have bS := Aside0.mk bB; clear bB; simp only [Option.some.injEq, Prod.mk.injEq] at H; obtain ⟨rfl, rfl⟩ := H; have p6 : 0 ≤ (bb : Int) := of_decide_eq_true (by first | (with_reducible assumption) | assumption); have q6 : bb < (a0.size : Int) := of_decide_eq_true (by first | (with_reducible assumption) | assumption); have bR := bt_at a0 bb; replace p6 := eq_true p6; replace q6 := eq_true q6
                    go_wp2_with (first | ((with_reducible refine gate_callee (f := 5) rfl ?_); refine goesM (some 25) rfl rfl Tryd.func5 (by kernel_rfl) rfl #[.string (a0.extract (bh : Int).toNat (bb : Int).toNat)] rfl ?_; (with_reducible refine (spec_InsRead.calls k1 (a0.extract (bh : Int).toNat (bb : Int).toNat) bi bj bk bl bm false _ A11.out).mono ?_); rintro e dx ⟨rfl, hb⟩; refine ⟨_, rfl, ?_⟩; replace bc := nR bc hb; replace HB := nbs HB hb; (try clear hb)) | ((with_reducible refine gate_dst (N := 7) rfl ?_); refine bxe 7 #[.int .i64 0, .int .i64 0, .int .i64 0, .int .i64 0, .int .i64 0] 23 ?_; intro bn hg dy hbox hb; have bo := hbox; have bZ := nge HB hg; have b0 := nge HB hg; replace bc := Aside0.mk (Kd.R_below (Kd.R_elderB (nRo bc) bn (Nat.le_of_eq hg.symm)) hb); replace HB := nbs HB hb; clear hb hbox hg; obtain ⟨dz, dA, dB, dC, dD⟩ := c5e bo; obtain ⟨dE, dF, dG, dH, dI⟩ := z5_ bo) | ((with_reducible refine gate_dst (N := 30) rfl ?_); refine Kd.R_lit k23 _ 23 ?hg (N := 30) ?hd (xs := ([] : List (S23))) (inner := []) (ok := fun _ => True) (okp := fun _ => True) ?hr ?hp (fun _ hk => hk) trivial (Below.refl _ _) (Nat.le_refl _) (by simp) ?_; (case hd => rfl); (case hg => rfl); (case hr => first | (go_simp; done) | (go_simp; rfl)); (case hp => exact (Reps.none _ _)); intro dJ dK bu hb hg_ hnew_; clear hg_ hnew_; (first | rw [← bS.out] at bu | (simp only [Int.reduceToNat] at bu; rw [← bS.out] at bu)); have b3 := Aside0.mk (Kd.R_lower (Kd.R_newB (Kd.R_new' bu (Kd.R_lt (by (with_reducible repeat (first | apply Kd.R_alloc | apply Kd.R_drewN | apply Kd.R_drew)); exact (f5 (Kd.R_mono bc.out (fun k_ hk => (⟨hk, hk.2⟩ : _ ∧ k_ ≠ bn))))))) (g := bn) (o := .cells #[.int .i64 bi, .int .i64 bj, .int .i64 bk, .int .i64 bl, .int .i64 bm] 23 (0, 0)) (q5 bo)) (bsz HB)); replace bc := Aside0.mk (Kd.R_elder' (by (with_reducible repeat (first | apply Kd.R_alloc | apply Kd.R_drewN | apply Kd.R_drew)); exact (f5 (Kd.R_mono bc.out (fun k_ hk => (⟨hk, hk.2⟩ : _ ∧ k_ ≠ bn))))) (Kd.R_base bu) hb); replace bo := Aside0.mk (blk_below (g := bn) (o := .cells #[.int .i64 bi, .int .i64 bj, .int .i64 bk, .int .i64 bl, .int .i64 bm] 23 (0, 0)) (q5 bo) hb); replace HB := nbs HB hb; clear hb bu))
                    go_ret2
                    exact ⟨_, er_, by (with_reducible repeat (first | apply Kd.R_alloc | apply Kd.R_drewN | apply Kd.R_drew)); exact Kd.R_mono b3.out (fun _ hk => trivial), nbe HB⟩
                · rw [if_neg c10] at H
                  exact absurd H (by simp)
              · rw [if_neg c9] at H
                exact absurd H (by simp)
            · rw [if_neg c8] at H
              exact absurd H (by simp)
          · rw [if_neg c7] at H
            have c7b0 : ((bt a0 bb) == 10) = false := beq_eq_false_iff_ne.mpr c7; have c7b1 : ((bt a0 bb) != 10) = true := bne_iff_ne.mpr c7; have H' := Aside0.mk H; clear H; have p6 : 0 ≤ (bb : Int) := of_decide_eq_true (by first | (with_reducible assumption) | assumption); have q6 : bb < (a0.size : Int) := of_decide_eq_true (by first | (with_reducible assumption) | assumption); have bR := bt_at a0 bb; replace p6 := eq_true p6; replace q6 := eq_true q6; go_wp2
            go_roundg k1
            case measure => have := bp.out; omega
            case rel => exact ⟨(ba), (bh), (wrap64 (bb + 1)), (by first | rfl | (simp; done) | (simp [*]; done)), (by first | rfl | (simp; done) | (simp [*]; done)), H', ⟨by have := bp.out; omega⟩, ⟨by (with_reducible repeat (first | apply Kd.R_alloc | apply Kd.R_drewN | apply Kd.R_drew)); exact bc.out⟩, ⟨nbe HB⟩⟩
        · rw [if_neg c5] at H
          exact absurd H (by simp)
      · rw [if_neg c4] at H
        have c4b0 : decide (bb < (a0.size : Int)) = false := decide_eq_false c4; clear c4
        by_cases c23 : a0.toList = ([] : List UInt8)
        · rw [if_pos c23] at H
          have c23b0 : (a0.toList == ([] : List UInt8)) = true := beq_iff_eq.mpr c23; have c23b1 : (a0.toList != ([] : List UInt8)) = false := bne_eq_false_iff_eq.mpr c23; clear c23; obtain ⟨b4, bC⟩ : ∃ y_ : List (S23), y_ = (([] : List (S23))) := ⟨_, rfl⟩; replace H : (some (b4, false)) = some (r1, r2) := by first | (rw [bC]; with_reducible exact H) | (have H2_ := (Option.bind_some _ _).symm.trans H; rw [bC]; with_reducible exact H2_) | (have H2_ := (Option.bind_some _ _).symm.trans H; with_reducible exact H2_) | with_reducible exact H | (rw [bC]; exact H) | exact H
          have bT := Aside0.mk bC; clear bC; simp only [Option.some.injEq, Prod.mk.injEq] at H; obtain ⟨rfl, rfl⟩ := H
          go_wp2_with (first | ((with_reducible refine gate_dst (N := 45) rfl ?_); refine Kd.R_lit k23 _ 23 ?hg (N := 45) ?hd (xs := ([] : List (S23))) (inner := []) (ok := fun _ => True) (okp := fun _ => True) ?hr ?hp (fun _ hk => hk) trivial (Below.refl _ _) (Nat.le_refl _) (by simp) ?_; (case hd => rfl); (case hg => rfl); (case hr => first | (go_simp; done) | (go_simp; rfl)); (case hp => exact (Reps.none _ _)); intro dL dM bv hb hg_ hnew_; clear hg_ hnew_; (first | rw [← bT.out] at bv | (simp only [Int.reduceToNat] at bv; rw [← bT.out] at bv)); have b5 := Aside0.mk (Kd.R_lower (Kd.R_new' bv (Kd.R_lt (nRo bc))) (bsz HB)); replace bc := Aside0.mk (Kd.R_elder' (nRo bc) (Kd.R_base bv) hb); replace HB := nbs HB hb; clear hb bv))
          go_ret2
          exact ⟨_, er_, by (with_reducible repeat (first | apply Kd.R_alloc | apply Kd.R_drewN | apply Kd.R_drew)); exact Kd.R_mono b5.out (fun _ hk => trivial), nbe HB⟩
        · rw [if_neg c23] at H
          have c23b0 : (a0.toList == ([] : List UInt8)) = false := beq_eq_false_iff_ne.mpr c23; have c23b1 : (a0.toList != ([] : List UInt8)) = true := bne_iff_ne.mpr c23; replace H := Option.bind_eq_some_iff.mp H; obtain ⟨bq, A260, H⟩ := H; replace H : (if bq.toList = a0.toList then (some (ba, true)) else (some ((([] : List (S23))), false))) = some (r1, r2) := H; have A26 := Aside0.mk A260; clear A260
          by_cases c27 : bq.toList = a0.toList
          · rw [if_pos c27] at H
            have c27b0 : (bq.toList == a0.toList) = true := beq_iff_eq.mpr c27; have c27b1 : (bq.toList != a0.toList) = false := bne_eq_false_iff_eq.mpr c27; clear c27; simp only [Option.some.injEq, Prod.mk.injEq] at H; obtain ⟨rfl, rfl⟩ := H; obtain ⟨dN, dO, b6⟩ := Kd.R_slice bc.out; subst b6
            go_wp2_with (first | (go_at_call 26; (with_reducible refine (spec_CodeText.calls k1 _ _ ba bq _ ?side1 ?side2 A26.out).mono ?_); (case side1 => repeat (first | exact (Kd.R_reads' bc.out).2.2 | (with_reducible refine Kd.C_alloc ?_ _) | (with_reducible refine Kd.C_drewN ?_ _) | (with_reducible refine Kd.C_drew ?_))); (case side2 => exact (Kd.R_reads' bc.out).2.1); rintro e dP ⟨rfl, hb⟩; replace bc := nR bc hb; replace HB := nbs HB hb; (try clear hb)))
            go_ret2
            exact ⟨_, er_, by (with_reducible repeat (first | apply Kd.R_alloc | apply Kd.R_drewN | apply Kd.R_drew)); exact bc.out, nbe HB⟩
          · rw [if_neg c27] at H
            have c27b0 : (bq.toList == a0.toList) = false := beq_eq_false_iff_ne.mpr c27; have c27b1 : (bq.toList != a0.toList) = true := bne_iff_ne.mpr c27; obtain ⟨b7, bD⟩ : ∃ y_ : List (S23), y_ = (([] : List (S23))) := ⟨_, rfl⟩; replace H : (some (b7, false)) = some (r1, r2) := by first | (rw [bD]; with_reducible exact H) | (have H2_ := (Option.bind_some _ _).symm.trans H; rw [bD]; with_reducible exact H2_) | (have H2_ := (Option.bind_some _ _).symm.trans H; with_reducible exact H2_) | with_reducible exact H | (rw [bD]; exact H) | exact H
            have bU := Aside0.mk bD; clear bD; simp only [Option.some.injEq, Prod.mk.injEq] at H; obtain ⟨rfl, rfl⟩ := H; obtain ⟨dQ, dR, b8⟩ := Kd.R_slice bc.out; subst b8
            go_wp2_with (first | (go_at_call 26; (with_reducible refine (spec_CodeText.calls k1 _ _ ba bq _ ?side1 ?side2 A26.out).mono ?_); (case side1 => repeat (first | exact (Kd.R_reads' bc.out).2.2 | (with_reducible refine Kd.C_alloc ?_ _) | (with_reducible refine Kd.C_drewN ?_ _) | (with_reducible refine Kd.C_drew ?_))); (case side2 => exact (Kd.R_reads' bc.out).2.1); rintro e dS ⟨rfl, hb⟩; replace bc := nR bc hb; replace HB := nbs HB hb; (try clear hb)) | ((with_reducible refine gate_dst (N := 45) rfl ?_); refine Kd.R_lit k23 _ 23 ?hg (N := 45) ?hd (xs := ([] : List (S23))) (inner := []) (ok := fun _ => True) (okp := fun _ => True) ?hr ?hp (fun _ hk => hk) trivial (Below.refl _ _) (Nat.le_refl _) (by simp) ?_; (case hd => rfl); (case hg => rfl); (case hr => first | (go_simp; done) | (go_simp; rfl)); (case hp => exact (Reps.none _ _)); intro dT dU bw hb hg_ hnew_; clear hg_ hnew_; (first | rw [← bU.out] at bw | (simp only [Int.reduceToNat] at bw; rw [← bU.out] at bw)); have b9 := Aside0.mk (Kd.R_lower (Kd.R_new' bw (Kd.R_lt (nRo bc))) (bsz HB)); replace bc := Aside0.mk (Kd.R_elder' (nRo bc) (Kd.R_base bw) hb); replace HB := nbs HB hb; clear hb bw))
            go_ret2
            exact ⟨_, er_, by (with_reducible repeat (first | apply Kd.R_alloc | apply Kd.R_drewN | apply Kd.R_drew)); exact Kd.R_mono b9.out (fun _ hk => trivial), nbe HB⟩

-- NOT PRINTED: function 54 (utf8_RuneCountInString)

-- NOT PRINTED: function 66 (utf8_decodeRuneInStringSlow)

-- NOT PRINTED: function 55 (utf8_DecodeRuneInString)

-- NOT PRINTED: function 41 (strings_explode)

-- NOT PRINTED: function 74 (bytealg_IndexByteString)

-- NOT PRINTED: function 62 (stringslite_IndexByte)

-- NOT PRINTED: function 63 (bytealg_IndexString)

-- NOT PRINTED: function 64 (bytealg_Cutover)

-- NOT PRINTED: function 75 (bytealg_hashStr_string)

-- NOT PRINTED: function 65 (bytealg_IndexRabinKarp_string)

-- NOT PRINTED: function 53 (stringslite_Index)

-- NOT PRINTED: function 43 (strings_Index)

-- NOT PRINTED: function 56 (bytealg_CountString)

-- NOT PRINTED: function 42 (strings_Count)

-- NOT PRINTED: function 31 (strings_genSplit)

/-! ### what the shelf's contracts ask of the world's variables -/
def TabW (w : World) : Prop := Lib.TabIs Tryd.prog w "internal/strconv.uint64pow10" .u64 Lib.pow10Tab ∧ (∃ m, w.cell? ⟨2, 0, none⟩ = some (.int .i64 m)) ∧ (∃ t p, w.var? Tryd.prog "strconv.ErrSyntax" = some #[.iface t p]) ∧ (∃ t p, w.var? Tryd.prog "strconv.ErrRange" = some #[.iface t p])
theorem tabW_below {w W : World} (h : TabW w) (hb : Below w.heap.size w W) : TabW W := by
  obtain ⟨h1, ⟨m, h2⟩, ⟨t, p, h3⟩, ⟨t', p', h4⟩⟩ := h; have g1 : Tryd.prog.globalNamed "internal/strconv.uint64pow10" = some 5 := by kernel_rfl
  have g3 : Tryd.prog.globalNamed "strconv.ErrSyntax" = some 0 := by kernel_rfl
  have g4 : Tryd.prog.globalNamed "strconv.ErrRange" = some 1 := by kernel_rfl
  exact ⟨Go.Joins.tab_stays g1 h1 hb (Nat.le_refl _), ⟨m, (hb.cell (World.block_lt_of_cell? _ _ h2)).trans h2⟩, ⟨t, p, Go.Joins.var_stays g3 h3 hb (Nat.le_refl _)⟩, ⟨t', p', Go.Joins.var_stays g4 h4 hb (Nat.le_refl _)⟩⟩
theorem nT {w W' W : World} (H : Aside0 (TabW w)) (HB : Aside0 (Below w.heap.size w W')) (h : Below w.heap.size w W := by repeat (first | (with_reducible first | exact Aside0.out (by assumption) | apply below_alloc | apply pw_below_drewN | apply below_drew1 | refine below_set ?_ (Aside0.out (by assumption))) | exact Aside0.out (by assumption))) : TabW W := tabW_below H.out h
/-! ### strings_Split: function 18, by the shelf's contract -/
def strings_Split.f (s sep : ByteArray) : Option (List ByteArray) := if s.size < 4294967281 then (if 1 ≤ sep.size then (if Lib.countB s sep + 1 ≤ 9223372036854775807 then some (Lib.splitB sep 0 (Lib.countB s sep) s) else none) else none) else none
theorem strings_Split.row (W : World) (base : Nat) (xs : List ByteArray) (hb : base ≤ W.heap.size) (hm : xs.length ≤ 9223372036854775807) : Kd.R Kd.string 9 (W.alloc (.cells (xs.map Value.string).toArray 9)) base (fun _ => True) (.slice (some ⟨W.heap.size, 0, none⟩) xs.length xs.length) xs := by
  have h2 := World.ownsRow_lit (base := base) (e := 9) (size := 1) W (xs.map Value.string).toArray xs.length hb (by simpa [maxLen] using hm) (by simp); refine ⟨fun _ _ => trivial, xs.map Value.string, (by exact h2), ?_⟩
  have hr : ∀ (l : List ByteArray), Reps (Kd.string.M (W.alloc (.cells (xs.map Value.string).toArray 9)) base (fun k => True ∧ some k ≠ (Value.slice (some ⟨W.heap.size, 0, none⟩) xs.length xs.length).ownBlock)) Kd.string.sz l (l.map Value.string) := by
    intro l
    induction l with
    | nil => exact Reps.none _ _
    | cons a l ih => exact Reps.one rfl ih
  exact hr xs
theorem strings_Split.calls (s sep : ByteArray) (r : List ByteArray) (w : World) (h : strings_Split.f s sep = some r) (hT_ : TabW w) :
  Calls Tryd.prog 18 #[.string s, .string sep] w fun e w' => ∃ v0_ : Value, e = .returned (v0_) ∧ Kd.R Kd.string 9 w' w.heap.size (fun _ => True) v0_ r ∧ Below w.heap.size w w' := by
 unfold strings_Split.f at h
 by_cases h0 : s.size < 4294967281
 · rw [if_pos h0] at h
   by_cases h1 : 1 ≤ sep.size
   · rw [if_pos h1] at h
     by_cases h2 : Lib.countB s sep + 1 ≤ 9223372036854775807
     · rw [if_pos h2] at h
       obtain rfl := Option.some.inj h; obtain ⟨m, hm⟩ := hT_.2.1; refine (Tryd.strings_Split s sep m w h0 hm h1).mono ?_; rintro e w' ⟨rfl, rfl⟩; have hl : (Lib.splitB sep 0 (Lib.countB s sep) s).length = Lib.countB s sep + 1 := Lib.splitB_all sep h1 0 _ s rfl; refine ⟨_, rfl, ?_, below_alloc (Below.refl _ _) _⟩; rw [← hl]; exact strings_Split.row w _ _ (Nat.le_refl _) (by rw [hl]; exact h2)
     · rw [if_neg h2] at h
       exact absurd h (by simp)
   · rw [if_neg h1] at h
     exact absurd h (by simp)
 · rw [if_neg h0] at h
   exact absurd h (by simp)

/-! ### slices_Index_string_string: function 19 -/
def slices_Index_string_string.l0 : Nat → List ByteArray → ByteArray → Int → Int → Option (Int)
  | 0, _, _, _, _ => none
  | k + 1, x0, x1, x7, x8 => if x8 < x7 then (if 0 ≤ x8 then (if x8 < (x0.length : Int) then (if x1.toList = (rdOf ByteArray.empty x0 x8).toList then (some x8) else (slices_Index_string_string.l0 k x0 x1 x7 (wrap64 (x8 + 1)))) else (none)) else (none)) else (some (-1))
def slices_Index_string_string.f (k : Nat) (l0 : List ByteArray) (a1 : ByteArray) : Option (Int) := slices_Index_string_string.l0 k l0 a1 (l0.length : Int) 0
theorem slices_Index_string_string.mono_l : ∀ k, (∀ y0 y1 y2 y3, LeO (slices_Index_string_string.l0 k y0 y1 y2 y3) (slices_Index_string_string.l0 (k + 1) y0 y1 y2 y3))
  | 0 => fun _ _ _ _ r h => by simp [slices_Index_string_string.l0] at h
  | k + 1 => by
    have ih0 := slices_Index_string_string.mono_l k
    · intro y0 y1 y2 y3
      unfold slices_Index_string_string.l0
      repeat' first
      | (with_reducible exact ih0 _ _ _ _)
      | (with_reducible exact LeO.refl _)
      | (with_reducible exact LeO.none _)
      | (with_reducible refine LeO.ite ?_ ?_)
      | (with_reducible refine LeO.bind ?_ (fun _ => ?_))
      | exact ih0 _ _ _ _
      | exact LeO.none _
      | refine LeO.ite ?_ ?_
      | refine LeO.bind ?_ (fun _ => ?_)
theorem slices_Index_string_string.mono : ∀ a0 a1 k, LeO (slices_Index_string_string.f k a0 a1) (slices_Index_string_string.f (k + 1) a0 a1) := by
  intro a0 a1 k; have ih0 := slices_Index_string_string.mono_l k
  unfold slices_Index_string_string.f
  repeat' first
      | (with_reducible exact ih0 _ _ _ _)
      | (with_reducible exact LeO.refl _)
      | (with_reducible exact LeO.none _)
      | (with_reducible refine LeO.ite ?_ ?_)
      | (with_reducible refine LeO.bind ?_ (fun _ => ?_))
      | exact ih0 _ _ _ _
      | exact LeO.none _
      | refine LeO.ite ?_ ?_
      | refine LeO.bind ?_ (fun _ => ?_)
set_option maxHeartbeats 8000000 in
set_option maxRecDepth 100000 in
theorem slices_Index_string_string.calls (k : Nat) (A0 : Option Addr) (c0 : Nat) (l0 : List ByteArray) (a1 : ByteArray) (r : Int) (w : World) (hr0 : Kd.C Kd.string w A0 l0.length l0) (hc0 : l0.length ≤ c0) (h : slices_Index_string_string.f k l0 a1 = some r) :
    Calls Tryd.prog 19 #[.slice A0 l0.length c0, .string a1] w fun e w' => e = .returned (.int .i64 r) ∧ Drawn0 w w' := by
  have br := Aside0.mk hr0; have bH := Aside0.mk hc0; clear hr0 hc0; have H : (slices_Index_string_string.l0 k l0 a1 (l0.length : Int) 0) = some r := h; clear h; have H' := Aside0.mk H; clear H
  go_enter Tryd.func19, Tryd.ntmps19
  go_wp2
  go_loopg [8] k (fun kq v8 w' => ∃ (bf : Int), v8 = .int .i64 bf ∧ Aside0 (slices_Index_string_string.l0 kq l0 a1 (l0.length : Int) bf = some r) ∧ Aside0 (kq ≤ k) ∧ Drawn0 w w')
  case atStart => exact ⟨(0), (by first | rfl | (simp; done) | (simp [*]; done)), H', ⟨Nat.le_refl _⟩, by repeat (first | exact Drawn0.refl _ | apply Drawn0.step)⟩
  case round =>
    clear H'; try clear c1
    try clear p2
    obtain ⟨bf, rfl, HA, bp, ⟨m1, rfl⟩⟩ := hrel
    cases gk with
    | zero => exact absurd HA.out (by simp [slices_Index_string_string.l0])
    | succ k1 =>
      have H := HA.out; clear HA; simp only [slices_Index_string_string.l0] at H
      by_cases c3 : bf < (l0.length : Int)
      · rw [if_pos c3] at H
        have c3b0 : decide (bf < (l0.length : Int)) = true := decide_eq_true c3; clear c3
        by_cases c4 : 0 ≤ bf
        · rw [if_pos c4] at H
          have c4b0 : decide (0 ≤ bf) = true := decide_eq_true c4; clear c4
          by_cases c5 : bf < (l0.length : Int)
          · rw [if_pos c5] at H
            have c5b0 : decide (bf < (l0.length : Int)) = true := decide_eq_true c5; clear c5
            by_cases c6 : a1.toList = (rdOf ByteArray.empty l0 bf).toList
            · rw [if_pos c6] at H
              have c6b0 : (a1.toList == (rdOf ByteArray.empty l0 bf).toList) = true := beq_iff_eq.mpr c6; have c6b1 : (a1.toList != (rdOf ByteArray.empty l0 bf).toList) = false := bne_eq_false_iff_eq.mpr c6; clear c6; obtain rfl := Option.some.inj H; have p195 : 0 ≤ (bf : Int) := of_decide_eq_true (by first | (with_reducible assumption) | assumption); have q195 : bf < (l0.length : Int) := of_decide_eq_true (by first | (with_reducible assumption) | assumption); obtain ⟨da, e195, db⟩ := Kd.at_string br.out bf p195 q195
              cases e195
              replace p195 := eq_true p195; replace q195 := eq_true q195; go_wp2
              go_ret
              exact ⟨by first | rfl | (simp; done) | (simp [*]; done), by repeat (first | exact Drawn0.refl _ | apply Drawn0.step)⟩
            · rw [if_neg c6] at H
              have c6b0 : (a1.toList == (rdOf ByteArray.empty l0 bf).toList) = false := beq_eq_false_iff_ne.mpr c6; have c6b1 : (a1.toList != (rdOf ByteArray.empty l0 bf).toList) = true := bne_iff_ne.mpr c6; have H' := Aside0.mk H; clear H; have p195 : 0 ≤ (bf : Int) := of_decide_eq_true (by first | (with_reducible assumption) | assumption); have q195 : bf < (l0.length : Int) := of_decide_eq_true (by first | (with_reducible assumption) | assumption); obtain ⟨da, e195, db⟩ := Kd.at_string br.out bf p195 q195
              cases e195
              replace p195 := eq_true p195; replace q195 := eq_true q195; go_wp2
              go_roundg k1
              case measure => have := bp.out; omega
              case rel => exact ⟨(wrap64 (bf + 1)), (by first | rfl | (simp; done) | (simp [*]; done)), H', ⟨by have := bp.out; omega⟩, by repeat (first | exact Drawn0.refl _ | apply Drawn0.step)⟩
          · rw [if_neg c5] at H
            exact absurd H (by simp)
        · rw [if_neg c4] at H
          exact absurd H (by simp)
      · rw [if_neg c3] at H
        have c3b0 : decide (bf < (l0.length : Int)) = false := decide_eq_false c3; clear c3; obtain rfl := Option.some.inj H; go_wp2
        go_ret
        exact ⟨by first | rfl | (simp; done) | (simp [*]; done), by repeat (first | exact Drawn0.refl _ | apply Drawn0.step)⟩

/-! ### impl_opNames: function 20 -/
def impl_opNames.f  : Option (List ByteArray) := some (([(⟨#[]⟩ : ByteArray), (⟨#[115, 101, 116]⟩ : ByteArray), (⟨#[97, 100, 100]⟩ : ByteArray), (⟨#[109, 111, 118, 101]⟩ : ByteArray), (⟨#[119, 101, 97, 107]⟩ : ByteArray), (⟨#[98, 111, 117, 110, 100]⟩ : ByteArray), (⟨#[112, 111, 105, 110, 116]⟩ : ByteArray), (⟨#[115, 101, 97, 108]⟩ : ByteArray), (⟨#[111, 112, 101, 110]⟩ : ByteArray), (⟨#[105, 115]⟩ : ByteArray), (⟨#[108, 111, 97, 100]⟩ : ByteArray), (⟨#[115, 116, 111, 114, 101]⟩ : ByteArray), (⟨#[106, 117, 109, 112]⟩ : ByteArray), (⟨#[122, 101, 114, 111]⟩ : ByteArray), (⟨#[103, 111, 110, 101]⟩ : ByteArray), (⟨#[104, 97, 108, 116]⟩ : ByteArray)] : List ByteArray))
set_option maxHeartbeats 8000000 in
set_option maxRecDepth 100000 in
theorem impl_opNames.calls  (r : List ByteArray) (w : World) (h : impl_opNames.f  = some r) :
    Calls Tryd.prog 20 #[] w fun e w' => ∃ v0_ : Value, e = .returned (v0_) ∧ Kd.R Kd.string 9 w' w.heap.size (fun _ => True) v0_ r ∧ Below w.heap.size w w' := by
  have HB := Aside0.mk (Below.refl w.heap.size w); have H : (some (([(⟨#[]⟩ : ByteArray), (⟨#[115, 101, 116]⟩ : ByteArray), (⟨#[97, 100, 100]⟩ : ByteArray), (⟨#[109, 111, 118, 101]⟩ : ByteArray), (⟨#[119, 101, 97, 107]⟩ : ByteArray), (⟨#[98, 111, 117, 110, 100]⟩ : ByteArray), (⟨#[112, 111, 105, 110, 116]⟩ : ByteArray), (⟨#[115, 101, 97, 108]⟩ : ByteArray), (⟨#[111, 112, 101, 110]⟩ : ByteArray), (⟨#[105, 115]⟩ : ByteArray), (⟨#[108, 111, 97, 100]⟩ : ByteArray), (⟨#[115, 116, 111, 114, 101]⟩ : ByteArray), (⟨#[106, 117, 109, 112]⟩ : ByteArray), (⟨#[122, 101, 114, 111]⟩ : ByteArray), (⟨#[103, 111, 110, 101]⟩ : ByteArray), (⟨#[104, 97, 108, 116]⟩ : ByteArray)] : List ByteArray))) = some r := h; clear h; obtain ⟨dc, bE⟩ : ∃ y_ : List ByteArray, y_ = (([(⟨#[]⟩ : ByteArray), (⟨#[115, 101, 116]⟩ : ByteArray), (⟨#[97, 100, 100]⟩ : ByteArray), (⟨#[109, 111, 118, 101]⟩ : ByteArray), (⟨#[119, 101, 97, 107]⟩ : ByteArray), (⟨#[98, 111, 117, 110, 100]⟩ : ByteArray), (⟨#[112, 111, 105, 110, 116]⟩ : ByteArray), (⟨#[115, 101, 97, 108]⟩ : ByteArray), (⟨#[111, 112, 101, 110]⟩ : ByteArray), (⟨#[105, 115]⟩ : ByteArray), (⟨#[108, 111, 97, 100]⟩ : ByteArray), (⟨#[115, 116, 111, 114, 101]⟩ : ByteArray), (⟨#[106, 117, 109, 112]⟩ : ByteArray), (⟨#[122, 101, 114, 111]⟩ : ByteArray), (⟨#[103, 111, 110, 101]⟩ : ByteArray), (⟨#[104, 97, 108, 116]⟩ : ByteArray)] : List ByteArray)) := ⟨_, rfl⟩; replace H : (some dc) = some r := by first | (rw [bE]; with_reducible exact H) | (have H2_ := (Option.bind_some _ _).symm.trans H; rw [bE]; with_reducible exact H2_) | (have H2_ := (Option.bind_some _ _).symm.trans H; with_reducible exact H2_) | with_reducible exact H | (rw [bE]; exact H) | exact H
  have bV := Aside0.mk bE; clear bE; obtain rfl := Option.some.inj H
  go_enter Tryd.func20, Tryd.ntmps20
  go_wp2_with (first | ((with_reducible refine gate_dst (N := 1) rfl ?_); refine Kd.R_lit Kd.string _ 9 ?hg (N := 1) ?hd (xs := ([(⟨#[]⟩ : ByteArray), (⟨#[115, 101, 116]⟩ : ByteArray), (⟨#[97, 100, 100]⟩ : ByteArray), (⟨#[109, 111, 118, 101]⟩ : ByteArray), (⟨#[119, 101, 97, 107]⟩ : ByteArray), (⟨#[98, 111, 117, 110, 100]⟩ : ByteArray), (⟨#[112, 111, 105, 110, 116]⟩ : ByteArray), (⟨#[115, 101, 97, 108]⟩ : ByteArray), (⟨#[111, 112, 101, 110]⟩ : ByteArray), (⟨#[105, 115]⟩ : ByteArray), (⟨#[108, 111, 97, 100]⟩ : ByteArray), (⟨#[115, 116, 111, 114, 101]⟩ : ByteArray), (⟨#[106, 117, 109, 112]⟩ : ByteArray), (⟨#[122, 101, 114, 111]⟩ : ByteArray), (⟨#[103, 111, 110, 101]⟩ : ByteArray), (⟨#[104, 97, 108, 116]⟩ : ByteArray)] : List ByteArray)) (inner := [.string (⟨#[]⟩ : ByteArray), .string (⟨#[115, 101, 116]⟩ : ByteArray), .string (⟨#[97, 100, 100]⟩ : ByteArray), .string (⟨#[109, 111, 118, 101]⟩ : ByteArray), .string (⟨#[119, 101, 97, 107]⟩ : ByteArray), .string (⟨#[98, 111, 117, 110, 100]⟩ : ByteArray), .string (⟨#[112, 111, 105, 110, 116]⟩ : ByteArray), .string (⟨#[115, 101, 97, 108]⟩ : ByteArray), .string (⟨#[111, 112, 101, 110]⟩ : ByteArray), .string (⟨#[105, 115]⟩ : ByteArray), .string (⟨#[108, 111, 97, 100]⟩ : ByteArray), .string (⟨#[115, 116, 111, 114, 101]⟩ : ByteArray), .string (⟨#[106, 117, 109, 112]⟩ : ByteArray), .string (⟨#[122, 101, 114, 111]⟩ : ByteArray), .string (⟨#[103, 111, 110, 101]⟩ : ByteArray), .string (⟨#[104, 97, 108, 116]⟩ : ByteArray)]) (ok := fun _ => True) (okp := fun _ => True) ?hr ?hp (fun _ hk => hk) trivial (Below.refl _ _) (Nat.le_refl _) (by simp) ?_; (case hd => rfl); (case hg => rfl); (case hr => first | (go_simp; done) | (go_simp; rfl)); (case hp => exact (Reps.one (show Kd.M Kd.string _ _ _ (⟨#[]⟩ : ByteArray) [.string (⟨#[]⟩ : ByteArray)] from rfl) (Reps.one (show Kd.M Kd.string _ _ _ (⟨#[115, 101, 116]⟩ : ByteArray) [.string (⟨#[115, 101, 116]⟩ : ByteArray)] from rfl) (Reps.one (show Kd.M Kd.string _ _ _ (⟨#[97, 100, 100]⟩ : ByteArray) [.string (⟨#[97, 100, 100]⟩ : ByteArray)] from rfl) (Reps.one (show Kd.M Kd.string _ _ _ (⟨#[109, 111, 118, 101]⟩ : ByteArray) [.string (⟨#[109, 111, 118, 101]⟩ : ByteArray)] from rfl) (Reps.one (show Kd.M Kd.string _ _ _ (⟨#[119, 101, 97, 107]⟩ : ByteArray) [.string (⟨#[119, 101, 97, 107]⟩ : ByteArray)] from rfl) (Reps.one (show Kd.M Kd.string _ _ _ (⟨#[98, 111, 117, 110, 100]⟩ : ByteArray) [.string (⟨#[98, 111, 117, 110, 100]⟩ : ByteArray)] from rfl) (Reps.one (show Kd.M Kd.string _ _ _ (⟨#[112, 111, 105, 110, 116]⟩ : ByteArray) [.string (⟨#[112, 111, 105, 110, 116]⟩ : ByteArray)] from rfl) (Reps.one (show Kd.M Kd.string _ _ _ (⟨#[115, 101, 97, 108]⟩ : ByteArray) [.string (⟨#[115, 101, 97, 108]⟩ : ByteArray)] from rfl) (Reps.one (show Kd.M Kd.string _ _ _ (⟨#[111, 112, 101, 110]⟩ : ByteArray) [.string (⟨#[111, 112, 101, 110]⟩ : ByteArray)] from rfl) (Reps.one (show Kd.M Kd.string _ _ _ (⟨#[105, 115]⟩ : ByteArray) [.string (⟨#[105, 115]⟩ : ByteArray)] from rfl) (Reps.one (show Kd.M Kd.string _ _ _ (⟨#[108, 111, 97, 100]⟩ : ByteArray) [.string (⟨#[108, 111, 97, 100]⟩ : ByteArray)] from rfl) (Reps.one (show Kd.M Kd.string _ _ _ (⟨#[115, 116, 111, 114, 101]⟩ : ByteArray) [.string (⟨#[115, 116, 111, 114, 101]⟩ : ByteArray)] from rfl) (Reps.one (show Kd.M Kd.string _ _ _ (⟨#[106, 117, 109, 112]⟩ : ByteArray) [.string (⟨#[106, 117, 109, 112]⟩ : ByteArray)] from rfl) (Reps.one (show Kd.M Kd.string _ _ _ (⟨#[122, 101, 114, 111]⟩ : ByteArray) [.string (⟨#[122, 101, 114, 111]⟩ : ByteArray)] from rfl) (Reps.one (show Kd.M Kd.string _ _ _ (⟨#[103, 111, 110, 101]⟩ : ByteArray) [.string (⟨#[103, 111, 110, 101]⟩ : ByteArray)] from rfl) (Reps.one (show Kd.M Kd.string _ _ _ (⟨#[104, 97, 108, 116]⟩ : ByteArray) [.string (⟨#[104, 97, 108, 116]⟩ : ByteArray)] from rfl) (Reps.none _ _)))))))))))))))))); intro dV w1 bF hb hg_ hnew_; clear hg_ hnew_; (first | rw [← bV.out] at bF | (simp only [Int.reduceToNat] at bF; rw [← bV.out] at bF)); have dd := Aside0.mk (Kd.R_lower bF (bsz HB)); replace HB := nbs HB hb; clear hb bF))
  go_ret
  exact ⟨_, er_, by (with_reducible repeat (first | apply Kd.R_alloc | apply Kd.R_drewN | apply Kd.R_drew)); exact dd.out, nbe HB⟩

end Go.Proofs.YtdbffjaolbkedaaDoor.PFnExactCodeRead
