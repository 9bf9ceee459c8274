-- Written by a program of this session (wip/patch.py turns a copy of the kit's print): the functions that the law reaches, and their walks.
import Derived.Test.YtlmcikjjeidnfaaGreatDoorPFnTextsx0
import Derived.Test.YtlmcikjjeidnfaaGreatDoorPFnTextsx1
import Derived.Test.YtlmcikjjeidnfaaGreatDoorPFnTextsx2
import Derived.Test.YtlmcikjjeidnfaaGreatDoorPFnTextsx4
import Derived.Test.YtlmcikjjeidnfaaGreatDoorPFnTextsx5
import Derived.Test.YtlmcikjjeidnfaaGreatDoorPFnTextsx7
import Derived.Test.YtlmcikjjeidnfaaGreatDoorPFnTextsx8
import Derived.Test.YtlmcikjjeidnfaaGreatDoorPFnTextsx11
import Derived.Test.YtlmcikjjeidnfaaGreatDoorCFnTexts
namespace Go.Proofs.YtlmcikjjeidnfaaGreatDoor.PFnTexts
open Go.RowKit Go.Proofs.YtlmcikjjeidnfaaGreatDoorW.PrintWords Go.Proofs.YtlmcikjjeidnfaaGreatDoorW.PrintLast Go.Proofs.YtlmcikjjeidnfaaGreatDoorW.PrintMore Go.Proofs.YtlmcikjjeidnfaaGreatDoorW.Mine
attribute [local go_sem] max2_int min2_int max_two min_two max_three min_three max_four min_four   -- for this text's walks alone
set_option linter.unusedVariables false
set_option linter.unusedSimpArgs false

attribute [local go_sem high] eqA25
/-! ### impl_CodeText: function 13 -/
def impl_CodeText.l0 : Nat → ByteArray → List (S25) → Int → Int → Option (ByteArray)
  | 0, _, _, _, _ => none
  | k + 1, x3, x9, da, bw => if bw < da then (if 0 ≤ bw then (if bw < (x9.length : Int) then ((impl_InsText.f k ((rd_T25 x9 bw).f0) ((rd_T25 x9 bw).f1) ((rd_T25 x9 bw).f2) ((rd_T25 x9 bw).f3) ((rd_T25 x9 bw).f4)).bind fun bh => (if bh.size + 1 ≤ 9223372036854775807 then (if x3.size + (bh ++ (⟨#[10]⟩ : ByteArray)).size ≤ 9223372036854775807 then (impl_CodeText.l0 k (x3 ++ (bh ++ (⟨#[10]⟩ : ByteArray))) x9 da (wrap64 (bw + 1))) else (none)) else (none))) else (none)) else (none)) else (some x3)
def impl_CodeText.f (k : Nat) (l0 : List (S25)) : Option (ByteArray) := (impl_CodeOk.f k l0).bind fun bI => (if bI = true then (impl_CodeText.l0 k (⟨#[]⟩ : ByteArray) l0 (l0.length : Int) 0) else (some (⟨#[]⟩ : ByteArray)))
theorem impl_CodeText.mono_l : ∀ k, (∀ y0 y1 y2 y3, LeO (impl_CodeText.l0 k y0 y1 y2 y3) (impl_CodeText.l0 (k + 1) y0 y1 y2 y3))
  | 0 => fun _ _ _ _ r h => by simp [impl_CodeText.l0] at h
  | k + 1 => by
    have ih0 := impl_CodeText.mono_l k
    · intro y0 y1 y2 y3
      unfold impl_CodeText.l0
      repeat' first
      | (with_reducible exact ih0 _ _ _ _)
      | (with_reducible exact impl_CodeOk.mono _ _)
      | (with_reducible exact impl_InsText.mono _ _ _ _ _ _)
      | (with_reducible exact LeO.refl _)
      | (with_reducible exact LeO.none _)
      | (with_reducible refine LeO.ite ?_ ?_)
      | (with_reducible refine LeO.bind ?_ (fun _ => ?_))
      | exact ih0 _ _ _ _
      | exact impl_CodeOk.mono _ _
      | exact impl_InsText.mono _ _ _ _ _ _
      | exact LeO.none _
      | refine LeO.ite ?_ ?_
      | refine LeO.bind ?_ (fun _ => ?_)
theorem impl_CodeText.mono : ∀ a0 k, LeO (impl_CodeText.f k a0) (impl_CodeText.f (k + 1) a0) := by
  intro a0 k; have ih0 := impl_CodeText.mono_l k
  unfold impl_CodeText.f
  repeat' first
      | (with_reducible exact ih0 _ _ _ _)
      | (with_reducible exact impl_CodeOk.mono _ _)
      | (with_reducible exact impl_InsText.mono _ _ _ _ _ _)
      | (with_reducible exact LeO.refl _)
      | (with_reducible exact LeO.none _)
      | (with_reducible refine LeO.ite ?_ ?_)
      | (with_reducible refine LeO.bind ?_ (fun _ => ?_))
      | exact ih0 _ _ _ _
      | exact impl_CodeOk.mono _ _
      | exact impl_InsText.mono _ _ _ _ _ _
      | exact LeO.none _
      | refine LeO.ite ?_ ?_
      | refine LeO.bind ?_ (fun _ => ?_)
set_option maxHeartbeats 8000000 in
set_option maxRecDepth 100000 in
theorem impl_CodeText.calls (k : Nat) (A0 : Option Addr) (c0 : Nat) (l0 : List (S25)) (r : ByteArray) (w : World) (hr0 : Kd.C k25 w A0 l0.length l0) (hc0 : l0.length ≤ c0) (h : impl_CodeText.f k l0 = some r) (hT_ : TabW w) :
    Calls Tryz.prog 13 #[.slice A0 l0.length c0] w fun e w' => e = .returned (.string r) ∧ Below w.heap.size w w' := by
  have HT := Aside0.mk hT_; clear hT_
  have hu25 := Tryz.underlying25; have bi := Aside0.mk hr0; have bx := Aside0.mk hc0; clear hr0 hc0; have HB := Aside0.mk (Below.refl w.heap.size w); have H : ((impl_CodeOk.f k l0).bind fun bI => (if bI = true then (impl_CodeText.l0 k (⟨#[]⟩ : ByteArray) l0 (l0.length : Int) 0) else (some (⟨#[]⟩ : ByteArray)))) = some r := h; clear h; replace H := Option.bind_eq_some_iff.mp H; obtain ⟨bI, A20, H⟩ := H; replace H : (if bI = true then (impl_CodeText.l0 k (⟨#[]⟩ : ByteArray) l0 (l0.length : Int) 0) else (some (⟨#[]⟩ : ByteArray))) = some r := H; have A2 := Aside0.mk A20; clear A20
  by_cases c3 : bI = true
  · subst c3
    have H1 : (impl_CodeText.l0 k (⟨#[]⟩ : ByteArray) l0 (l0.length : Int) 0) = some r := by rw [if_pos rfl] at H; exact H
    clear H; have H := H1; clear H1; have H' := Aside0.mk H; clear H
    go_enter Tryz.func13, Tryz.ntmps13
    go_wp2_with (first | ((with_reducible refine gate_callee (f := 15) rfl ?_); refine goesM (some 7) rfl rfl Tryz.func15 (by kernel_rfl) rfl #[.slice A0 l0.length c0] rfl ?_; (with_reducible refine (impl_CodeOk.calls k _ _ l0 true _ ?side1 ?side2 A2.out).mono ?_); (case side1 => exact nC bi); (case side2 => exact bx.out); rintro e w4 ⟨rfl, hb⟩; refine ⟨_, rfl, ?_⟩; replace HB := nbs HB hb; (try clear hb)))
    go_loopg [3, 11] k (fun kq v3 dl w' => ∃ (bb : ByteArray) (bf : Int), v3 = .string bb ∧ dl = .int .i64 bf ∧ Aside0 (impl_CodeText.l0 kq bb l0 (l0.length : Int) bf = some r) ∧ Aside0 (kq ≤ k) ∧ Aside0 (Below w.heap.size w w'))
    case atStart => exact ⟨((⟨#[]⟩ : ByteArray)), (0), (by first | rfl | (simp; done) | (simp [*]; done)), (by first | rfl | (simp; done) | (simp [*]; done)), H', ⟨Nat.le_refl _⟩, ⟨nbe HB⟩⟩
    case round =>
      clear H'; try clear c1
      try clear p2
      try clear c3
      obtain ⟨bb, bf, rfl, rfl, HA, bj, HB⟩ := hrel
      cases gk with
      | zero => exact absurd HA.out (by simp [impl_CodeText.l0])
      | succ k1 =>
        have H := HA.out; clear HA; simp only [impl_CodeText.l0] at H
        by_cases c5 : bf < (l0.length : Int)
        · rw [if_pos c5] at H
          have c5b0 : decide (bf < (l0.length : Int)) = true := decide_eq_true c5; clear c5
          by_cases c6 : 0 ≤ bf
          · rw [if_pos c6] at H
            have c6b0 : decide (0 ≤ bf) = true := decide_eq_true c6; clear c6
            by_cases c7 : bf < (l0.length : Int)
            · rw [if_pos c7] at H
              have c7b0 : decide (bf < (l0.length : Int)) = true := decide_eq_true c7; clear c7; replace H := Option.bind_eq_some_iff.mp H; obtain ⟨bh, A80, H⟩ := H; replace H : (if bh.size + 1 ≤ 9223372036854775807 then (if bb.size + (bh ++ (⟨#[10]⟩ : ByteArray)).size ≤ 9223372036854775807 then (impl_CodeText.l0 k1 (bb ++ (bh ++ (⟨#[10]⟩ : ByteArray))) l0 (l0.length : Int) (wrap64 (bf + 1))) else (none)) else (none)) = some r := H; have A8 := Aside0.mk A80; clear A80
              by_cases c9 : bh.size + 1 ≤ 9223372036854775807
              · rw [if_pos c9] at H
                have c9b0 := eq_true c9; have c9b1 : decide (bh.size + 1 ≤ 9223372036854775807) = true := decide_eq_true c9
                try have c9b2 : (9223372036854775807 < bh.size + 1) = False := eq_false (Nat.not_lt.2 c9)
                by_cases c10 : bb.size + (bh ++ (⟨#[10]⟩ : ByteArray)).size ≤ 9223372036854775807
                · rw [if_pos c10] at H
                  have c10b0 := eq_true c10; have c10b1 : decide (bb.size + (bh ++ (⟨#[10]⟩ : ByteArray)).size ≤ 9223372036854775807) = true := decide_eq_true c10
                  try have c10b2 : (9223372036854775807 < bb.size + (bh ++ (⟨#[10]⟩ : ByteArray)).size) = False := eq_false (Nat.not_lt.2 c10)
                  have c10b3 : (9223372036854775807 < bb.size + (bh.size + 1)) = False := eq_false (Nat.not_lt.2 (by have h_ := c10; simp only [ByteArray.size_append] at h_; exact h_))
                  have H' := Aside0.mk H; clear H; have p416 : 0 ≤ (bf : Int) := of_decide_eq_true (by first | (with_reducible assumption) | assumption); have q416 : bf < (l0.length : Int) := of_decide_eq_true (by first | (with_reducible assumption) | assumption); obtain ⟨dR, e416, bU, bV, bW, bX, bY⟩ := at_T25 bi.out bf p416 q416
                  cases e416
                  replace bU := (HB.out.cell (World.block_lt_of_cell? w _ bU)).trans bU; replace bV := (HB.out.cell (World.block_lt_of_cell? w _ bV)).trans bV; replace bW := (HB.out.cell (World.block_lt_of_cell? w _ bW)).trans bW; replace bX := (HB.out.cell (World.block_lt_of_cell? w _ bX)).trans bX; replace bY := (HB.out.cell (World.block_lt_of_cell? w _ bY)).trans bY; replace p416 := eq_true p416; replace q416 := eq_true q416
                  go_wp2_with (first | ((with_reducible refine gate_dst (N := 5) rfl ?_); refine bxe 5 #[.int .i64 0, .int .i64 0, .int .i64 0, .int .i64 0, .int .i64 0] 25 ?_; intro dm hg db hbox hb; have bO := hbox; have dS := nge HB hg; have dT := nge HB hg; replace HB := nbs HB hb; clear hb hbox hg; obtain ⟨dU, dV, dW, dX, dY⟩ := c5e bO; obtain ⟨dZ, d0, d1, d2, d3⟩ := z5_ bO) | ((with_reducible refine gate_callee (f := 6) rfl ?_); refine goesM (some 17) rfl rfl Tryz.func6 (by kernel_rfl) rfl #[.agg #[.int .i64 ((rd_T25 l0 bf).f0), .int .i64 ((rd_T25 l0 bf).f1), .int .i64 ((rd_T25 l0 bf).f2), .int .i64 ((rd_T25 l0 bf).f3), .int .i64 ((rd_T25 l0 bf).f4)]] rfl ?_; (with_reducible refine (impl_InsText.calls k1 ((rd_T25 l0 bf).f0) ((rd_T25 l0 bf).f1) ((rd_T25 l0 bf).f2) ((rd_T25 l0 bf).f3) ((rd_T25 l0 bf).f4) bh _ A8.out ?hT).mono ?_); (case hT => exact nT HT HB); rintro e dn ⟨rfl, hb⟩; refine ⟨_, rfl, ?_⟩; replace bO := Aside0.mk (blk_below (g := dm) (o := .cells #[.int .i64 ((rd_T25 l0 bf).f0), .int .i64 ((rd_T25 l0 bf).f1), .int .i64 ((rd_T25 l0 bf).f2), .int .i64 ((rd_T25 l0 bf).f3), .int .i64 ((rd_T25 l0 bf).f4)] 25 (0, 0)) (q5 bO) hb); replace HB := nbs HB hb; (try clear hb)))
                  go_roundg k1
                  case measure => have := bj.out; omega
                  case rel => exact ⟨(bb ++ (bh ++ (⟨#[10]⟩ : ByteArray))), (wrap64 (bf + 1)), (by first | rfl | (simp; done) | (simp [*]; done)), (by first | rfl | (simp; done) | (simp [*]; done)), H', ⟨by have := bj.out; omega⟩, ⟨nbe HB⟩⟩
                · rw [if_neg c10] at H
                  exact absurd H (by simp)
              · rw [if_neg c9] at H
                exact absurd H (by simp)
            · rw [if_neg c7] at H
              exact absurd H (by simp)
          · rw [if_neg c6] at H
            exact absurd H (by simp)
        · rw [if_neg c5] at H
          have c5b0 : decide (bf < (l0.length : Int)) = false := decide_eq_false c5; clear c5; obtain rfl := Option.some.inj H; go_wp2
          go_ret
          exact ⟨er_, nbe HB⟩
  · replace c3 := Bool.eq_false_iff.mpr c3
    subst c3; have H1 : (some (⟨#[]⟩ : ByteArray)) = some r := by rw [if_neg (show ¬ (false = true) by decide)] at H; exact H
    clear H; have H := H1; clear H1; obtain rfl := Option.some.inj H
    go_enter Tryz.func13, Tryz.ntmps13
    go_wp2_with (first | ((with_reducible refine gate_callee (f := 15) rfl ?_); refine goesM (some 7) rfl rfl Tryz.func15 (by kernel_rfl) rfl #[.slice A0 l0.length c0] rfl ?_; (with_reducible refine (impl_CodeOk.calls k _ _ l0 false _ ?side1 ?side2 A2.out).mono ?_); (case side1 => exact nC bi); (case side2 => exact bx.out); rintro e d4 ⟨rfl, hb⟩; refine ⟨_, rfl, ?_⟩; replace HB := nbs HB hb; (try clear hb)))
    go_ret
    exact ⟨er_, nbe HB⟩

/-! ### spec_CodeOk: function 42 -/
def spec_CodeOk.l0 : Nat → List (S25) → Int → Option (Bool)
  | 0, _, _ => none
  | k + 1, x0, x3 => if x3 < (x0.length : Int) then (if 0 ≤ x3 then ((spec_InsOk.f ((rd_T25 x0 x3).f0) ((rd_T25 x0 x3).f1) ((rd_T25 x0 x3).f2) ((rd_T25 x0 x3).f3) ((rd_T25 x0 x3).f4)).bind fun bP => (if bP = true then (spec_CodeOk.l0 k x0 (wrap64 (x3 + 1))) else (some false))) else (none)) else ((spec_l1In.f (x0.length : Int) 1 48).bind fun bQ => (some bQ))
def spec_CodeOk.f (k : Nat) (l0 : List (S25)) : Option (Bool) := spec_CodeOk.l0 k l0 0
theorem spec_CodeOk.mono_l : ∀ k, (∀ y0 y1, LeO (spec_CodeOk.l0 k y0 y1) (spec_CodeOk.l0 (k + 1) y0 y1))
  | 0 => fun _ _ r h => by simp [spec_CodeOk.l0] at h
  | k + 1 => by
    have ih0 := spec_CodeOk.mono_l k
    · intro y0 y1
      unfold spec_CodeOk.l0
      repeat' first
      | (with_reducible exact ih0 _ _)
      | (with_reducible exact LeO.refl _)
      | (with_reducible exact LeO.none _)
      | (with_reducible refine LeO.ite ?_ ?_)
      | (with_reducible refine LeO.bind ?_ (fun _ => ?_))
      | exact ih0 _ _
      | exact LeO.none _
      | refine LeO.ite ?_ ?_
      | refine LeO.bind ?_ (fun _ => ?_)
theorem spec_CodeOk.mono : ∀ a0 k, LeO (spec_CodeOk.f k a0) (spec_CodeOk.f (k + 1) a0) := by
  intro a0 k; have ih0 := spec_CodeOk.mono_l k
  unfold spec_CodeOk.f
  repeat' first
      | (with_reducible exact ih0 _ _)
      | (with_reducible exact LeO.refl _)
      | (with_reducible exact LeO.none _)
      | (with_reducible refine LeO.ite ?_ ?_)
      | (with_reducible refine LeO.bind ?_ (fun _ => ?_))
      | exact ih0 _ _
      | exact LeO.none _
      | refine LeO.ite ?_ ?_
      | refine LeO.bind ?_ (fun _ => ?_)
set_option maxHeartbeats 8000000 in
set_option maxRecDepth 100000 in
theorem spec_CodeOk.calls (k : Nat) (A0 : Option Addr) (c0 : Nat) (l0 : List (S25)) (r : Bool) (w : World) (hr0 : Kd.C k25 w A0 l0.length l0) (hc0 : l0.length ≤ c0) (h : spec_CodeOk.f k l0 = some r) :
    Calls Tryz.prog 42 #[.slice A0 l0.length c0] w fun e w' => e = .returned (.bool r) ∧ Below w.heap.size w w' := by
  have hu25 := Tryz.underlying25; have bi := Aside0.mk hr0; have bx := Aside0.mk hc0; clear hr0 hc0; have HB := Aside0.mk (Below.refl w.heap.size w); have H : (spec_CodeOk.l0 k l0 0) = some r := h; clear h; have H' := Aside0.mk H; clear H
  go_enter Tryz.func42, Tryz.ntmps42
  go_wp2
  go_loopg [3] k (fun kq v3 w' => ∃ (bb : Int), v3 = .int .i64 bb ∧ Aside0 (spec_CodeOk.l0 kq l0 bb = some r) ∧ Aside0 (kq ≤ k) ∧ Aside0 (Below w.heap.size w w'))
  case atStart => exact ⟨(0), (by first | rfl | (simp; done) | (simp [*]; done)), H', ⟨Nat.le_refl _⟩, ⟨nbe HB⟩⟩
  case round =>
    clear H'; obtain ⟨bb, rfl, HA, bj, HB⟩ := hrel
    cases gk with
    | zero => exact absurd HA.out (by simp [spec_CodeOk.l0])
    | succ k1 =>
      have H := HA.out; clear HA; simp only [spec_CodeOk.l0] at H
      by_cases c2 : bb < (l0.length : Int)
      · rw [if_pos c2] at H
        have c2b0 : decide (bb < (l0.length : Int)) = true := decide_eq_true c2; clear c2
        by_cases c3 : 0 ≤ bb
        · rw [if_pos c3] at H
          have c3b0 : decide (0 ≤ bb) = true := decide_eq_true c3; clear c3; replace H := Option.bind_eq_some_iff.mp H; obtain ⟨bP, A40, H⟩ := H; replace H : (if bP = true then (spec_CodeOk.l0 k1 l0 (wrap64 (bb + 1))) else (some false)) = some r := H; have A4 := Aside0.mk A40; clear A40
          by_cases c5 : bP = true
          · subst c5
            have H1 : (spec_CodeOk.l0 k1 l0 (wrap64 (bb + 1))) = some r := by rw [if_pos rfl] at H; exact H
            clear H; have H := H1; clear H1; have H' := Aside0.mk H; clear H; have p419 : 0 ≤ (bb : Int) := of_decide_eq_true (by first | (with_reducible assumption) | assumption); have q419 : bb < (l0.length : Int) := of_decide_eq_true (by first | (with_reducible assumption) | assumption); obtain ⟨dp, e419, bD, bE, bF, bG, bH⟩ := at_T25 bi.out bb p419 q419
            cases e419
            replace bD := (HB.out.cell (World.block_lt_of_cell? w _ bD)).trans bD; replace bE := (HB.out.cell (World.block_lt_of_cell? w _ bE)).trans bE; replace bF := (HB.out.cell (World.block_lt_of_cell? w _ bF)).trans bF; replace bG := (HB.out.cell (World.block_lt_of_cell? w _ bG)).trans bG; replace bH := (HB.out.cell (World.block_lt_of_cell? w _ bH)).trans bH; replace p419 := eq_true p419; replace q419 := eq_true q419
            go_wp2_with (first | ((with_reducible refine gate_callee (f := 25) rfl ?_); refine goesM (some 14) rfl rfl Tryz.func25 (by kernel_rfl) rfl #[.agg #[.int .i64 ((rd_T25 l0 bb).f0), .int .i64 ((rd_T25 l0 bb).f1), .int .i64 ((rd_T25 l0 bb).f2), .int .i64 ((rd_T25 l0 bb).f3), .int .i64 ((rd_T25 l0 bb).f4)]] rfl ?_; (with_reducible refine (spec_InsOk.calls ((rd_T25 l0 bb).f0) ((rd_T25 l0 bb).f1) ((rd_T25 l0 bb).f2) ((rd_T25 l0 bb).f3) ((rd_T25 l0 bb).f4) true _ A4.out).mono ?_); rintro e w6 ⟨rfl, hb⟩; refine ⟨_, rfl, ?_⟩; replace HB := nbs HB hb; (try clear hb)))
            go_roundg k1
            case measure => have := bj.out; omega
            case rel => exact ⟨(wrap64 (bb + 1)), (by first | rfl | (simp; done) | (simp [*]; done)), H', ⟨by have := bj.out; omega⟩, ⟨nbe HB⟩⟩
          · replace c5 := Bool.eq_false_iff.mpr c5
            subst c5; have H1 : (some false) = some r := by rw [if_neg (show ¬ (false = true) by decide)] at H; exact H
            clear H; have H := H1; clear H1; obtain rfl := Option.some.inj H; have p419 : 0 ≤ (bb : Int) := of_decide_eq_true (by first | (with_reducible assumption) | assumption); have q419 : bb < (l0.length : Int) := of_decide_eq_true (by first | (with_reducible assumption) | assumption); obtain ⟨dp, e419, bD, bE, bF, bG, bH⟩ := at_T25 bi.out bb p419 q419
            cases e419
            replace bD := (HB.out.cell (World.block_lt_of_cell? w _ bD)).trans bD; replace bE := (HB.out.cell (World.block_lt_of_cell? w _ bE)).trans bE; replace bF := (HB.out.cell (World.block_lt_of_cell? w _ bF)).trans bF; replace bG := (HB.out.cell (World.block_lt_of_cell? w _ bG)).trans bG; replace bH := (HB.out.cell (World.block_lt_of_cell? w _ bH)).trans bH; replace p419 := eq_true p419; replace q419 := eq_true q419
            go_wp2_with (first | ((with_reducible refine gate_callee (f := 25) rfl ?_); refine goesM (some 14) rfl rfl Tryz.func25 (by kernel_rfl) rfl #[.agg #[.int .i64 ((rd_T25 l0 bb).f0), .int .i64 ((rd_T25 l0 bb).f1), .int .i64 ((rd_T25 l0 bb).f2), .int .i64 ((rd_T25 l0 bb).f3), .int .i64 ((rd_T25 l0 bb).f4)]] rfl ?_; (with_reducible refine (spec_InsOk.calls ((rd_T25 l0 bb).f0) ((rd_T25 l0 bb).f1) ((rd_T25 l0 bb).f2) ((rd_T25 l0 bb).f3) ((rd_T25 l0 bb).f4) false _ A4.out).mono ?_); rintro e w7 ⟨rfl, hb⟩; refine ⟨_, rfl, ?_⟩; replace HB := nbs HB hb; (try clear hb)))
            go_ret
            exact ⟨er_, nbe HB⟩
        · rw [if_neg c3] at H
          exact absurd H (by simp)
      · rw [if_neg c2] at H
        have c2b0 : decide (bb < (l0.length : Int)) = false := decide_eq_false c2; clear c2; replace H := Option.bind_eq_some_iff.mp H; obtain ⟨bQ, A80, H⟩ := H; replace H : (some bQ) = some r := H; have A8 := Aside0.mk A80; clear A80; obtain rfl := Option.some.inj H
        go_wp2_with (first | ((with_reducible refine gate_callee (f := 50) rfl ?_); refine goesM (some 18) rfl rfl Tryz.func50 (by kernel_rfl) rfl #[.int .i64 (l0.length : Int), .int .i64 1, .int .i64 48] rfl ?_; (with_reducible refine (spec_l1In.calls (l0.length : Int) 1 48 bQ _ A8.out).mono ?_); rintro e w' ⟨rfl, ⟨nd, rfl⟩⟩; refine ⟨_, rfl, ?_⟩))
        go_ret
        exact ⟨er_, nbe HB⟩

/-! ### spec_CodeText: function 14 -/
def spec_CodeText.l0 : Nat → List (S25) → ByteArray → Int → Option (ByteArray)
  | 0, _, _, _ => none
  | k + 1, x0, x3, x4 => if x4 < (x0.length : Int) then ((spec_CodeOk.f k x0).bind fun bR => (if bR = true then (if 0 ≤ x4 then ((spec_InsText.f k ((rd_T25 x0 x4).f0) ((rd_T25 x0 x4).f1) ((rd_T25 x0 x4).f2) ((rd_T25 x0 x4).f3) ((rd_T25 x0 x4).f4)).bind fun bg => (if x3.size + bg.size ≤ 9223372036854775807 then (if (x3 ++ bg).size + 1 ≤ 9223372036854775807 then (spec_CodeText.l0 k x0 ((x3 ++ bg) ++ (⟨#[10]⟩ : ByteArray)) (wrap64 (x4 + 1))) else (none)) else (none))) else (none)) else (some x3))) else (some x3)
def spec_CodeText.f (k : Nat) (l0 : List (S25)) : Option (ByteArray) := spec_CodeText.l0 k l0 (⟨#[]⟩ : ByteArray) 0
theorem spec_CodeText.mono_l : ∀ k, (∀ y0 y1 y2, LeO (spec_CodeText.l0 k y0 y1 y2) (spec_CodeText.l0 (k + 1) y0 y1 y2))
  | 0 => fun _ _ _ r h => by simp [spec_CodeText.l0] at h
  | k + 1 => by
    have ih0 := spec_CodeText.mono_l k
    · intro y0 y1 y2
      unfold spec_CodeText.l0
      repeat' first
      | (with_reducible exact ih0 _ _ _)
      | (with_reducible exact spec_CodeOk.mono _ _)
      | (with_reducible exact spec_InsText.mono _ _ _ _ _ _)
      | (with_reducible exact LeO.refl _)
      | (with_reducible exact LeO.none _)
      | (with_reducible refine LeO.ite ?_ ?_)
      | (with_reducible refine LeO.bind ?_ (fun _ => ?_))
      | exact ih0 _ _ _
      | exact spec_CodeOk.mono _ _
      | exact spec_InsText.mono _ _ _ _ _ _
      | exact LeO.none _
      | refine LeO.ite ?_ ?_
      | refine LeO.bind ?_ (fun _ => ?_)
theorem spec_CodeText.mono : ∀ a0 k, LeO (spec_CodeText.f k a0) (spec_CodeText.f (k + 1) a0) := by
  intro a0 k; have ih0 := spec_CodeText.mono_l k
  unfold spec_CodeText.f
  repeat' first
      | (with_reducible exact ih0 _ _ _)
      | (with_reducible exact spec_CodeOk.mono _ _)
      | (with_reducible exact spec_InsText.mono _ _ _ _ _ _)
      | (with_reducible exact LeO.refl _)
      | (with_reducible exact LeO.none _)
      | (with_reducible refine LeO.ite ?_ ?_)
      | (with_reducible refine LeO.bind ?_ (fun _ => ?_))
      | exact ih0 _ _ _
      | exact spec_CodeOk.mono _ _
      | exact spec_InsText.mono _ _ _ _ _ _
      | exact LeO.none _
      | refine LeO.ite ?_ ?_
      | refine LeO.bind ?_ (fun _ => ?_)
set_option maxHeartbeats 8000000 in
set_option maxRecDepth 100000 in
theorem spec_CodeText.calls (k : Nat) (A0 : Option Addr) (c0 : Nat) (l0 : List (S25)) (r : ByteArray) (w : World) (hr0 : Kd.C k25 w A0 l0.length l0) (hc0 : l0.length ≤ c0) (h : spec_CodeText.f k l0 = some r) :
    Calls Tryz.prog 14 #[.slice A0 l0.length c0] w fun e w' => e = .returned (.string r) ∧ Below w.heap.size w w' := by
  have hu25 := Tryz.underlying25; have bi := Aside0.mk hr0; have bx := Aside0.mk hc0; clear hr0 hc0; have HB := Aside0.mk (Below.refl w.heap.size w); have H : (spec_CodeText.l0 k l0 (⟨#[]⟩ : ByteArray) 0) = some r := h; clear h; have H' := Aside0.mk H; clear H
  go_enter Tryz.func14, Tryz.ntmps14
  go_wp2
  go_loopg [3, 4] k (fun kq v3 v4 w' => ∃ (bb : ByteArray) (bc : Int), v3 = .string bb ∧ v4 = .int .i64 bc ∧ Aside0 (spec_CodeText.l0 kq l0 bb bc = some r) ∧ Aside0 (kq ≤ k) ∧ Aside0 (Below w.heap.size w w'))
  case atStart => exact ⟨((⟨#[]⟩ : ByteArray)), (0), (by first | rfl | (simp; done) | (simp [*]; done)), (by first | rfl | (simp; done) | (simp [*]; done)), H', ⟨Nat.le_refl _⟩, ⟨nbe HB⟩⟩
  case round =>
    clear H'; try clear c1
    obtain ⟨bb, bc, rfl, rfl, HA, bj, HB⟩ := hrel
    cases gk with
    | zero => exact absurd HA.out (by simp [spec_CodeText.l0])
    | succ k1 =>
      have H := HA.out; clear HA; simp only [spec_CodeText.l0] at H
      by_cases c2 : bc < (l0.length : Int)
      · rw [if_pos c2] at H
        have c2b0 : decide (bc < (l0.length : Int)) = true := decide_eq_true c2; clear c2; replace H := Option.bind_eq_some_iff.mp H; obtain ⟨bR, A30, H⟩ := H; replace H : (if bR = true then (if 0 ≤ bc then ((spec_InsText.f k1 ((rd_T25 l0 bc).f0) ((rd_T25 l0 bc).f1) ((rd_T25 l0 bc).f2) ((rd_T25 l0 bc).f3) ((rd_T25 l0 bc).f4)).bind fun bg => (if bb.size + bg.size ≤ 9223372036854775807 then (if (bb ++ bg).size + 1 ≤ 9223372036854775807 then (spec_CodeText.l0 k1 l0 ((bb ++ bg) ++ (⟨#[10]⟩ : ByteArray)) (wrap64 (bc + 1))) else (none)) else (none))) else (none)) else (some bb)) = some r := H; have A3 := Aside0.mk A30; clear A30
        by_cases c4 : bR = true
        · subst c4
          have H1 : (if 0 ≤ bc then ((spec_InsText.f k1 ((rd_T25 l0 bc).f0) ((rd_T25 l0 bc).f1) ((rd_T25 l0 bc).f2) ((rd_T25 l0 bc).f3) ((rd_T25 l0 bc).f4)).bind fun bg => (if bb.size + bg.size ≤ 9223372036854775807 then (if (bb ++ bg).size + 1 ≤ 9223372036854775807 then (spec_CodeText.l0 k1 l0 ((bb ++ bg) ++ (⟨#[10]⟩ : ByteArray)) (wrap64 (bc + 1))) else (none)) else (none))) else (none)) = some r := by rw [if_pos rfl] at H; exact H
          clear H; have H := H1; clear H1
          by_cases c5 : 0 ≤ bc
          · rw [if_pos c5] at H
            have c5b0 : decide (0 ≤ bc) = true := decide_eq_true c5; clear c5; replace H := Option.bind_eq_some_iff.mp H; obtain ⟨bg, A60, H⟩ := H; replace H : (if bb.size + bg.size ≤ 9223372036854775807 then (if (bb ++ bg).size + 1 ≤ 9223372036854775807 then (spec_CodeText.l0 k1 l0 ((bb ++ bg) ++ (⟨#[10]⟩ : ByteArray)) (wrap64 (bc + 1))) else (none)) else (none)) = some r := H; have A6 := Aside0.mk A60; clear A60
            by_cases c7 : bb.size + bg.size ≤ 9223372036854775807
            · rw [if_pos c7] at H
              have c7b0 := eq_true c7; have c7b1 : decide (bb.size + bg.size ≤ 9223372036854775807) = true := decide_eq_true c7
              try have c7b2 : (9223372036854775807 < bb.size + bg.size) = False := eq_false (Nat.not_lt.2 c7)
              by_cases c8 : (bb ++ bg).size + 1 ≤ 9223372036854775807
              · rw [if_pos c8] at H
                have c8b0 := eq_true c8; have c8b1 : decide ((bb ++ bg).size + 1 ≤ 9223372036854775807) = true := decide_eq_true c8
                try have c8b2 : (9223372036854775807 < (bb ++ bg).size + 1) = False := eq_false (Nat.not_lt.2 c8)
                have c8b3 : (9223372036854775807 < bb.size + bg.size + 1) = False := eq_false (Nat.not_lt.2 (by have h_ := c8; simp only [ByteArray.size_append] at h_; exact h_))
                have H' := Aside0.mk H; clear H
                go_wp2_with (first | (go_at_call 42; (with_reducible refine (spec_CodeOk.calls k1 _ _ l0 true _ ?side1 ?side2 A3.out).mono ?_); (case side1 => exact nCb bi HB); (case side2 => exact bx.out); rintro e w9 ⟨rfl, hb⟩; replace HB := nbs HB hb; (try clear hb); have p423 : 0 ≤ (bc : Int) := of_decide_eq_true (by first | (with_reducible assumption) | assumption); have q423 : bc < (l0.length : Int) := of_decide_eq_true (by first | (with_reducible assumption) | assumption); obtain ⟨d5, e423, bZ, b0, b1, b2, b3⟩ := at_T25 bi.out bc p423 q423; cases e423; replace bZ := (HB.out.cell (World.block_lt_of_cell? w _ bZ)).trans bZ; replace b0 := (HB.out.cell (World.block_lt_of_cell? w _ b0)).trans b0; replace b1 := (HB.out.cell (World.block_lt_of_cell? w _ b1)).trans b1; replace b2 := (HB.out.cell (World.block_lt_of_cell? w _ b2)).trans b2; replace b3 := (HB.out.cell (World.block_lt_of_cell? w _ b3)).trans b3; replace p423 := eq_true p423; replace q423 := eq_true q423) | ((with_reducible refine gate_callee (f := 7) rfl ?_); refine goesM (some 20) rfl rfl Tryz.func7 (by kernel_rfl) rfl #[.agg #[.int .i64 ((rd_T25 l0 bc).f0), .int .i64 ((rd_T25 l0 bc).f1), .int .i64 ((rd_T25 l0 bc).f2), .int .i64 ((rd_T25 l0 bc).f3), .int .i64 ((rd_T25 l0 bc).f4)]] rfl ?_; (with_reducible refine (spec_InsText.calls k1 ((rd_T25 l0 bc).f0) ((rd_T25 l0 bc).f1) ((rd_T25 l0 bc).f2) ((rd_T25 l0 bc).f3) ((rd_T25 l0 bc).f4) bg _ A6.out).mono ?_); rintro e dq ⟨rfl, hb⟩; refine ⟨_, rfl, ?_⟩; replace HB := nbs HB hb; (try clear hb)))
                go_roundg k1
                case measure => have := bj.out; omega
                case rel => exact ⟨((bb ++ bg) ++ (⟨#[10]⟩ : ByteArray)), (wrap64 (bc + 1)), (by first | rfl | (simp; done) | (simp [*]; done)), (by first | rfl | (simp; done) | (simp [*]; done)), H', ⟨by have := bj.out; omega⟩, ⟨nbe HB⟩⟩
              · rw [if_neg c8] at H
                exact absurd H (by simp)
            · rw [if_neg c7] at H
              exact absurd H (by simp)
          · rw [if_neg c5] at H
            exact absurd H (by simp)
        · replace c4 := Bool.eq_false_iff.mpr c4
          subst c4; have H1 : (some bb) = some r := by rw [if_neg (show ¬ (false = true) by decide)] at H; exact H
          clear H; have H := H1; clear H1; obtain rfl := Option.some.inj H
          go_wp2_with (first | (go_at_call 42; (with_reducible refine (spec_CodeOk.calls k1 _ _ l0 false _ ?side1 ?side2 A3.out).mono ?_); (case side1 => exact nCb bi HB); (case side2 => exact bx.out); rintro e db ⟨rfl, hb⟩; replace HB := nbs HB hb; (try clear hb)))
          go_ret
          exact ⟨er_, nbe HB⟩
      · rw [if_neg c2] at H
        have c2b0 : decide (bc < (l0.length : Int)) = false := decide_eq_false c2; clear c2; obtain rfl := Option.some.inj H; go_wp2
        go_ret
        exact ⟨er_, nbe HB⟩

-- NOT PRINTED: function 61 (stringslite_Cut)

/-! ### strings_Cut: function 45, by the shelf's contract -/
def strings_Cut.f (s sep : ByteArray) : Option (ByteArray × ByteArray × Bool) := if s.size < 4294967281 then some ((⟨(Lib.cut s.data.toList sep.data.toList).1.toArray⟩ : ByteArray), (⟨(Lib.cut s.data.toList sep.data.toList).2.1.toArray⟩ : ByteArray), (Lib.cut s.data.toList sep.data.toList).2.2) else none
theorem strings_Cut.calls (s sep : ByteArray) (r1 r2 : ByteArray) (r3 : Bool) (w : World) (h : strings_Cut.f s sep = some (r1, r2, r3)) (hT_ : TabW w) :
  Calls Tryz.prog 45 #[.string s, .string sep] w fun e w' => e = .returned (.tuple #[.string r1, .string r2, .bool r3]) ∧ Below w.heap.size w w' := by
 unfold strings_Cut.f at h
 by_cases h0 : s.size < 4294967281
 · rw [if_pos h0] at h
   simp only [Option.some.injEq, Prod.mk.injEq] at h; obtain ⟨rfl, rfl, rfl⟩ := h; obtain ⟨m, hm⟩ := hT_.2.1; refine (Tryz.strings_Cut s sep m w h0 hm).mono ?_; rintro e w' ⟨rfl, n, rfl⟩; exact ⟨rfl, pw_below_drewN (Below.refl _ _) _⟩
 · rw [if_neg h0] at h
   exact absurd h (by simp)

/-! ### impl_CodeRead: function 16 -/
def impl_CodeRead.l0 : Nat → List (S25) → ByteArray → Option ((List (S25)) × Bool)
  | 0, _, _ => none
  | k + 1, x4, x5 => if x5.toList = ([] : List UInt8) then (some (x4, decide ((x4.length : Int) > 0))) else ((strings_Cut.f x5 (⟨#[10]⟩ : ByteArray)).bind fun b4 => ((impl_InsRead.f k b4.1).bind fun bl => (if b4.2.2 = true then (if bl.2.2.2.2.2 = true then (if (x4.length : Int) = 48 then (some (([] : List (S25)), false)) else (if x4.length < 3518437208883 then (impl_CodeRead.l0 k (x4 ++ [(⟨bl.1, bl.2.1, bl.2.2.1, bl.2.2.2.1, bl.2.2.2.2.1⟩ : S25)]) b4.2.1) else (none))) else (some (([] : List (S25)), false))) else (some (([] : List (S25)), false)))))
def impl_CodeRead.f (k : Nat) (a0 : ByteArray) : Option ((List (S25)) × Bool) := impl_CodeRead.l0 k (([] : List (S25))) a0
theorem impl_CodeRead.mono_l : ∀ k, (∀ y0 y1, LeO (impl_CodeRead.l0 k y0 y1) (impl_CodeRead.l0 (k + 1) y0 y1))
  | 0 => fun _ _ r h => by simp [impl_CodeRead.l0] at h
  | k + 1 => by
    have ih0 := impl_CodeRead.mono_l k
    · intro y0 y1
      unfold impl_CodeRead.l0
      repeat' first
      | (with_reducible exact ih0 _ _)
      | (with_reducible exact impl_InsRead.mono _ _)
      | (with_reducible exact LeO.refl _)
      | (with_reducible exact LeO.none _)
      | (with_reducible refine LeO.ite ?_ ?_)
      | (with_reducible refine LeO.bind ?_ (fun _ => ?_))
      | exact ih0 _ _
      | exact impl_InsRead.mono _ _
      | exact LeO.none _
      | refine LeO.ite ?_ ?_
      | refine LeO.bind ?_ (fun _ => ?_)
theorem impl_CodeRead.mono : ∀ a0 k, LeO (impl_CodeRead.f k a0) (impl_CodeRead.f (k + 1) a0) := by
  intro a0 k; have ih0 := impl_CodeRead.mono_l k
  unfold impl_CodeRead.f
  repeat' first
      | (with_reducible exact ih0 _ _)
      | (with_reducible exact impl_InsRead.mono _ _)
      | (with_reducible exact LeO.refl _)
      | (with_reducible exact LeO.none _)
      | (with_reducible refine LeO.ite ?_ ?_)
      | (with_reducible refine LeO.bind ?_ (fun _ => ?_))
      | exact ih0 _ _
      | exact impl_InsRead.mono _ _
      | exact LeO.none _
      | refine LeO.ite ?_ ?_
      | refine LeO.bind ?_ (fun _ => ?_)
set_option maxHeartbeats 8000000 in
set_option maxRecDepth 100000 in
theorem impl_CodeRead.calls (k : Nat) (a0 : ByteArray) (r1 : List (S25)) (r2 : Bool) (w : World) (h : impl_CodeRead.f k a0 = some (r1, r2)) (hT_ : TabW w) :
    Calls Tryz.prog 16 #[.string a0] w fun e w' => ∃ v0_ : Value, e = .returned (.tuple #[v0_, .bool r2]) ∧ Kd.R k25 25 w' w.heap.size (fun _ => True) v0_ r1 ∧ Below w.heap.size w w' := by
  have HT := Aside0.mk hT_; clear hT_
  have hu25 := Tryz.underlying25; have HB := Aside0.mk (Below.refl w.heap.size w); have H : (impl_CodeRead.l0 k (([] : List (S25))) a0) = some (r1, r2) := h; clear h; obtain ⟨dc, bJ⟩ : ∃ y_ : List (S25), y_ = (([] : List (S25))) := ⟨_, rfl⟩; replace H : (impl_CodeRead.l0 k dc a0) = some (r1, r2) := by first | (rw [bJ]; with_reducible exact H) | (have H2_ := (Option.bind_some _ _).symm.trans H; rw [bJ]; with_reducible exact H2_) | (have H2_ := (Option.bind_some _ _).symm.trans H; with_reducible exact H2_) | with_reducible exact H | (rw [bJ]; exact H) | exact H
  have dd := Aside0.mk bJ; clear bJ; have H' := Aside0.mk H; clear H
  go_enter Tryz.func16, Tryz.ntmps16
  go_wp2_with (first | ((with_reducible refine gate_dst (N := 11) rfl ?_); (try (refine gate_guard (by rfl) ?_; dsimp only)); refine Kd.R_lit k25 _ 25 ?hg (N := 11) ?hd (xs := ([] : List (S25))) (inner := []) (ok := fun _ => True) (okp := fun _ => True) ?hr ?hp (fun _ hk => hk) trivial (Below.refl _ _) (Nat.le_refl _) (by simp) ?_; (case hd => rfl); (case hg => rfl); (case hr => first | (go_simp; done) | (go_simp; rfl)); (case hp => exact (Reps.none _ _)); intro d6 w2 bK hb hg_ hnew_; clear hg_ hnew_; (first | rw [← dd.out] at bK | (simp only [Int.reduceToNat] at bK; rw [← dd.out] at bK)); have dr := Aside0.mk (Kd.R_lower bK (bsz HB)); replace HB := nbs HB hb; clear hb bK))
  go_loopg [4, 5] k (fun kq v4 v5 w' => ∃ (bc : List (S25)) (ba : ByteArray), v5 = .string ba ∧ Aside0 (impl_CodeRead.l0 kq bc ba = some (r1, r2)) ∧ Aside0 (kq ≤ k) ∧ Aside0 (Kd.R k25 25 w' w.heap.size (fun _ => True) v4 bc) ∧ Aside0 (Below w.heap.size w w'))
  case atStart => exact ⟨(dc), (a0), (by first | rfl | (simp; done) | (simp [*]; done)), H', ⟨Nat.le_refl _⟩, ⟨by (with_reducible repeat (first | apply Kd.R_alloc | apply Kd.R_drewN | apply Kd.R_drew)); exact dr.out⟩, ⟨nbe HB⟩⟩
  case round =>
    clear H'; try clear c1
    try clear p2
    obtain ⟨bc, ba, rfl, HA, bj, bd, HB⟩ := hrel
    cases gk with
    | zero => exact absurd HA.out (by simp [impl_CodeRead.l0])
    | succ k1 =>
      have H := HA.out; clear HA; simp only [impl_CodeRead.l0] at H
      by_cases c4 : ba.toList = ([] : List UInt8)
      · rw [if_pos c4] at H
        have c4b0 : (ba.toList == ([] : List UInt8)) = true := beq_iff_eq.mpr c4; have c4b1 : (ba.toList != ([] : List UInt8)) = false := bne_eq_false_iff_eq.mpr c4; clear c4; simp only [Option.some.injEq, Prod.mk.injEq] at H; obtain ⟨rfl, rfl⟩ := H; obtain ⟨d7, d8, ds⟩ := Kd.R_slice bd.out; subst ds; go_wp2
        go_ret2
        exact ⟨_, er_, by (with_reducible repeat (first | apply Kd.R_alloc | apply Kd.R_drewN | apply Kd.R_drew)); exact bd.out, nbe HB⟩
      · rw [if_neg c4] at H
        have c4b0 : (ba.toList == ([] : List UInt8)) = false := beq_eq_false_iff_ne.mpr c4; have c4b1 : (ba.toList != ([] : List UInt8)) = true := bne_iff_ne.mpr c4; replace H := Option.bind_eq_some_iff.mp H; obtain ⟨⟨bm, bv, b5⟩, A60, H⟩ := H; replace H : ((impl_InsRead.f k1 bm).bind fun bl => (if b5 = true then (if bl.2.2.2.2.2 = true then (if (bc.length : Int) = 48 then (some (([] : List (S25)), false)) else (if bc.length < 3518437208883 then (impl_CodeRead.l0 k1 (bc ++ [(⟨bl.1, bl.2.1, bl.2.2.1, bl.2.2.2.1, bl.2.2.2.2.1⟩ : S25)]) bv) else (none))) else (some (([] : List (S25)), false))) else (some (([] : List (S25)), false)))) = some (r1, r2) := H; have A6 := Aside0.mk A60; clear A60; replace H := Option.bind_eq_some_iff.mp H; obtain ⟨⟨bn, bo, bp, bq, br, bS⟩, A70, H⟩ := H; replace H : (if b5 = true then (if bS = true then (if (bc.length : Int) = 48 then (some (([] : List (S25)), false)) else (if bc.length < 3518437208883 then (impl_CodeRead.l0 k1 (bc ++ [(⟨bn, bo, bp, bq, br⟩ : S25)]) bv) else (none))) else (some (([] : List (S25)), false))) else (some (([] : List (S25)), false))) = some (r1, r2) := H; have A7 := Aside0.mk A70; clear A70
        by_cases c8 : b5 = true
        · subst c8
          have H1 : (if bS = true then (if (bc.length : Int) = 48 then (some (([] : List (S25)), false)) else (if bc.length < 3518437208883 then (impl_CodeRead.l0 k1 (bc ++ [(⟨bn, bo, bp, bq, br⟩ : S25)]) bv) else (none))) else (some (([] : List (S25)), false))) = some (r1, r2) := by rw [if_pos rfl] at H; exact H
          clear H; have H := H1; clear H1
          by_cases c9 : bS = true
          · subst c9
            have H1 : (if (bc.length : Int) = 48 then (some (([] : List (S25)), false)) else (if bc.length < 3518437208883 then (impl_CodeRead.l0 k1 (bc ++ [(⟨bn, bo, bp, bq, br⟩ : S25)]) bv) else (none))) = some (r1, r2) := by rw [if_pos rfl] at H; exact H
            clear H; have H := H1; clear H1
            by_cases c10 : (bc.length : Int) = 48
            · rw [if_pos c10] at H
              have c10b0 : ((bc.length : Int) == 48) = true := beq_iff_eq.mpr c10; have c10b1 : ((bc.length : Int) != 48) = false := bne_eq_false_iff_eq.mpr c10; clear c10; simp only [Option.some.injEq, Prod.mk.injEq] at H; obtain ⟨rfl, rfl⟩ := H
              go_wp2_with (first | ((with_reducible refine gate_callee (f := 45) rfl ?_); refine goesM (some 17) rfl rfl Tryz.func45 (by kernel_rfl) rfl #[.string ba, .string (⟨#[10]⟩ : ByteArray)] rfl ?_; (with_reducible refine (strings_Cut.calls ba (⟨#[10]⟩ : ByteArray) bm bv true _ A6.out ?hT).mono ?_); (case hT => exact nT HT HB); rintro e db ⟨rfl, hb⟩; refine ⟨_, rfl, ?_⟩; replace bd := nR bd hb; replace HB := nbs HB hb; (try clear hb)) | ((with_reducible refine gate_callee (f := 9) rfl ?_); refine goesM (some 23) rfl rfl Tryz.func9 (by kernel_rfl) rfl #[.string bm] rfl ?_; (with_reducible refine (impl_InsRead.calls k1 bm bn bo bp bq br true _ A7.out ?hT).mono ?_); (case hT => exact nT HT HB); rintro e d9 ⟨rfl, hb⟩; refine ⟨_, rfl, ?_⟩; replace bd := nR bd hb; replace HB := nbs HB hb; (try clear hb)) | ((with_reducible refine gate_dst (N := 9) rfl ?_); (try (refine gate_guard (by rfl) ?_; dsimp only)); refine bxe 9 #[.int .i64 0, .int .i64 0, .int .i64 0, .int .i64 0, .int .i64 0] 25 ?_; intro bt hg dn hbox hb; have bk := hbox; have b6 := nge HB hg; have b7 := nge HB hg; replace bd := Aside0.mk (Kd.R_below (Kd.R_elderB (nRo bd) bt (Nat.le_of_eq hg.symm)) hb); replace HB := nbs HB hb; clear hb hbox hg; obtain ⟨ea, eb, ec, ed, ee⟩ := c5e bk; obtain ⟨ef, eg, eh, ei, ej⟩ := z5_ bk; obtain ⟨ek, el, dt⟩ := Kd.R_slice bd.out; subst dt))
              go_ret2
              exact ⟨_, er_, by first | exact Kd.R_nil _ _ _ _ _ | exact Kd.N_nil _ _ _ _ _ | exact Kd.V_nil _ _ _ _ _ | exact Kd.Q_nil _ _ _ _ _ | exact Kd.S_nil _ _ _ _ _, nbe HB⟩
            · rw [if_neg c10] at H
              have c10b0 : ((bc.length : Int) == 48) = false := beq_eq_false_iff_ne.mpr c10; have c10b1 : ((bc.length : Int) != 48) = true := bne_iff_ne.mpr c10
              by_cases c16 : bc.length < 3518437208883
              · rw [if_pos c16] at H
                have du := Aside0.mk c16; clear c16; obtain ⟨de, bL⟩ : ∃ y_ : List (S25), y_ = (bc ++ [(⟨bn, bo, bp, bq, br⟩ : S25)]) := ⟨_, rfl⟩; replace H : (impl_CodeRead.l0 k1 de bv) = some (r1, r2) := by first | (rw [bL]; with_reducible exact H) | (have H2_ := (Option.bind_some _ _).symm.trans H; rw [bL]; with_reducible exact H2_) | (have H2_ := (Option.bind_some _ _).symm.trans H; with_reducible exact H2_) | with_reducible exact H | (rw [bL]; exact H) | exact H
                have dv := Aside0.mk bL; clear bL; have H' := Aside0.mk H; clear H
                go_wp2_with (first | ((with_reducible refine gate_callee (f := 45) rfl ?_); refine goesM (some 17) rfl rfl Tryz.func45 (by kernel_rfl) rfl #[.string ba, .string (⟨#[10]⟩ : ByteArray)] rfl ?_; (with_reducible refine (strings_Cut.calls ba (⟨#[10]⟩ : ByteArray) bm bv true _ A6.out ?hT).mono ?_); (case hT => exact nT HT HB); rintro e em ⟨rfl, hb⟩; refine ⟨_, rfl, ?_⟩; replace bd := nR bd hb; replace HB := nbs HB hb; (try clear hb)) | ((with_reducible refine gate_callee (f := 9) rfl ?_); refine goesM (some 23) rfl rfl Tryz.func9 (by kernel_rfl) rfl #[.string bm] rfl ?_; (with_reducible refine (impl_InsRead.calls k1 bm bn bo bp bq br true _ A7.out ?hT).mono ?_); (case hT => exact nT HT HB); rintro e en ⟨rfl, hb⟩; refine ⟨_, rfl, ?_⟩; replace bd := nR bd hb; replace HB := nbs HB hb; (try clear hb)) | ((with_reducible refine gate_dst (N := 9) rfl ?_); (try (refine gate_guard (by rfl) ?_; dsimp only)); refine bxe 9 #[.int .i64 0, .int .i64 0, .int .i64 0, .int .i64 0, .int .i64 0] 25 ?_; intro bt hg eo hbox hb; have bk := hbox; have b6 := nge HB hg; have b7 := nge HB hg; replace bd := Aside0.mk (Kd.R_below (Kd.R_elderB (nRo bd) bt (Nat.le_of_eq hg.symm)) hb); replace HB := nbs HB hb; clear hb hbox hg; obtain ⟨ep, er, es, et, eu⟩ := c5e bk; obtain ⟨ev, ew, ex, ey, ez⟩ := z5_ bk; obtain ⟨dw, dx, dy⟩ := Kd.R_slice bd.out; subst dy) | ((with_reducible refine gate_builtin (b := .append) (xs := #[.tmp 37, .tmp 39]) rfl ?_); (try (refine gate_guard (by rfl) ?_; dsimp only)); at_builtin; refine Kd.R_append k25 (w0 := w) w.heap.size rfl (.tmp 37) (.tmp 39) 32 25 (.agg #[(.int .i64 0), (.int .i64 0), (.int .i64 0), (.int .i64 0), (.int .i64 0)]) 40 rfl Tryz.underlying32 info25 rfl (by decide) (by omega) (.slice dw bc.length dx) bc (⟨bn, bo, bp, bq, br⟩ : S25) [.int .i64 bn, .int .i64 bo, .int .i64 bp, .int .i64 bq, .int .i64 br] (fun k_ => k_ ≠ bt) (fun _ => False) rfl (by first | (go_simp; done) | (go_simp; rfl)) ?aP (fun _ hk => hk.elim) ?aF ?aO ?aB ?aS ?aL ?_; (case aP => exact k25_mkM _ _ _ (⟨bn, bo, bp, bq, br⟩ : S25)); (case aB => exact (nbe HB)); (case aF => exact (fun k_ hk => Kd.freshB (g := bt) (o := .cells #[.int .i64 bn, .int .i64 bo, .int .i64 bp, .int .i64 bq, .int .i64 br] 25 (0, 0)) (q5 bk) k_ hk)); (case aO => exact (by (with_reducible repeat (first | apply Kd.R_alloc | apply Kd.R_drewN | apply Kd.R_drew)); exact Kd.R_mono (eR5_ (Kd.R_mono bd.out (fun k_ hk => (⟨hk, hk.2⟩ : _ ∧ k_ ≠ bt)))) (fun _ hk => hk.1.2))); (case aS => exact (bsz HB)); (case aL => have := du.out; omega); intro eA eB ho hb hg hat; rw [← dv.out] at ho; have dz := Aside0.mk (ho); replace bk := Aside0.mk (blk_grown (g := bt) (o := .cells #[.int .i64 bn, .int .i64 bo, .int .i64 bp, .int .i64 bq, .int .i64 br] 25 (0, 0)) (q5 bk) hg (Kd.R_away bd.out (fun _ hk => hk.2))); replace HB := Aside0.mk (hb); clear bd; clear ho hb hg hat))
                go_roundg k1
                case measure => have := bj.out; omega
                case rel => exact ⟨(de), (bv), (by first | rfl | (simp; done) | (simp [*]; done)), H', ⟨by have := bj.out; omega⟩, ⟨by (with_reducible repeat (first | apply Kd.R_alloc | apply Kd.R_drewN | apply Kd.R_drew)); exact Kd.R_mono dz.out (fun _ hk => trivial)⟩, ⟨nbe HB⟩⟩
              · rw [if_neg c16] at H
                exact absurd H (by simp)
          · replace c9 := Bool.eq_false_iff.mpr c9
            subst c9; have H1 : (some (([] : List (S25)), false)) = some (r1, r2) := by rw [if_neg (show ¬ (false = true) by decide)] at H; exact H
            clear H; have H := H1; clear H1; simp only [Option.some.injEq, Prod.mk.injEq] at H; obtain ⟨rfl, rfl⟩ := H
            go_wp2_with (first | ((with_reducible refine gate_callee (f := 45) rfl ?_); refine goesM (some 17) rfl rfl Tryz.func45 (by kernel_rfl) rfl #[.string ba, .string (⟨#[10]⟩ : ByteArray)] rfl ?_; (with_reducible refine (strings_Cut.calls ba (⟨#[10]⟩ : ByteArray) bm bv true _ A6.out ?hT).mono ?_); (case hT => exact nT HT HB); rintro e eC ⟨rfl, hb⟩; refine ⟨_, rfl, ?_⟩; replace bd := nR bd hb; replace HB := nbs HB hb; (try clear hb)) | ((with_reducible refine gate_callee (f := 9) rfl ?_); refine goesM (some 23) rfl rfl Tryz.func9 (by kernel_rfl) rfl #[.string bm] rfl ?_; (with_reducible refine (impl_InsRead.calls k1 bm bn bo bp bq br false _ A7.out ?hT).mono ?_); (case hT => exact nT HT HB); rintro e eD ⟨rfl, hb⟩; refine ⟨_, rfl, ?_⟩; replace bd := nR bd hb; replace HB := nbs HB hb; (try clear hb)) | ((with_reducible refine gate_dst (N := 9) rfl ?_); (try (refine gate_guard (by rfl) ?_; dsimp only)); refine bxe 9 #[.int .i64 0, .int .i64 0, .int .i64 0, .int .i64 0, .int .i64 0] 25 ?_; intro bt hg eE hbox hb; have bk := hbox; have b6 := nge HB hg; have b7 := nge HB hg; replace bd := Aside0.mk (Kd.R_below (Kd.R_elderB (nRo bd) bt (Nat.le_of_eq hg.symm)) hb); replace HB := nbs HB hb; clear hb hbox hg; obtain ⟨eF, eG, eH, eI, eJ⟩ := c5e bk; obtain ⟨eK, eL, eM, eN, eO⟩ := z5_ bk))
            go_ret2
            exact ⟨_, er_, by first | exact Kd.R_nil _ _ _ _ _ | exact Kd.N_nil _ _ _ _ _ | exact Kd.V_nil _ _ _ _ _ | exact Kd.Q_nil _ _ _ _ _ | exact Kd.S_nil _ _ _ _ _, nbe HB⟩
        · replace c8 := Bool.eq_false_iff.mpr c8
          subst c8; have H1 : (some (([] : List (S25)), false)) = some (r1, r2) := by rw [if_neg (show ¬ (false = true) by decide)] at H; exact H
          clear H; have H := H1; clear H1; simp only [Option.some.injEq, Prod.mk.injEq] at H; obtain ⟨rfl, rfl⟩ := H
          go_wp2_with (first | ((with_reducible refine gate_callee (f := 45) rfl ?_); refine goesM (some 17) rfl rfl Tryz.func45 (by kernel_rfl) rfl #[.string ba, .string (⟨#[10]⟩ : ByteArray)] rfl ?_; (with_reducible refine (strings_Cut.calls ba (⟨#[10]⟩ : ByteArray) bm bv false _ A6.out ?hT).mono ?_); (case hT => exact nT HT HB); rintro e eP ⟨rfl, hb⟩; refine ⟨_, rfl, ?_⟩; replace bd := nR bd hb; replace HB := nbs HB hb; (try clear hb)) | ((with_reducible refine gate_callee (f := 9) rfl ?_); refine goesM (some 23) rfl rfl Tryz.func9 (by kernel_rfl) rfl #[.string bm] rfl ?_; (with_reducible refine (impl_InsRead.calls k1 bm bn bo bp bq br bS _ A7.out ?hT).mono ?_); (case hT => exact nT HT HB); rintro e eQ ⟨rfl, hb⟩; refine ⟨_, rfl, ?_⟩; replace bd := nR bd hb; replace HB := nbs HB hb; (try clear hb)) | ((with_reducible refine gate_dst (N := 9) rfl ?_); (try (refine gate_guard (by rfl) ?_; dsimp only)); refine bxe 9 #[.int .i64 0, .int .i64 0, .int .i64 0, .int .i64 0, .int .i64 0] 25 ?_; intro bt hg eR hbox hb; have bk := hbox; have b6 := nge HB hg; have b7 := nge HB hg; replace bd := Aside0.mk (Kd.R_below (Kd.R_elderB (nRo bd) bt (Nat.le_of_eq hg.symm)) hb); replace HB := nbs HB hb; clear hb hbox hg; obtain ⟨eS, eT, eU, eV, eW⟩ := c5e bk; obtain ⟨eX, eY, eZ, e0, e1⟩ := z5_ bk))
          go_ret2
          exact ⟨_, er_, by first | exact Kd.R_nil _ _ _ _ _ | exact Kd.N_nil _ _ _ _ _ | exact Kd.V_nil _ _ _ _ _ | exact Kd.Q_nil _ _ _ _ _ | exact Kd.S_nil _ _ _ _ _, nbe HB⟩

/-! ### laws_sameIns: function 17 -/
def laws_sameIns.l0 : Nat → List (S25) → List (S25) → Int → Option (Bool)
  | 0, _, _, _ => none
  | k + 1, x0, x1, x5 => if x5 < (x0.length : Int) then (if 0 ≤ x5 then (if x5 < (x1.length : Int) then (if (!(((rd_T25 x0 x5).f0) == ((rd_T25 x1 x5).f0)) || (!(((rd_T25 x0 x5).f1) == ((rd_T25 x1 x5).f1)) || (!(((rd_T25 x0 x5).f2) == ((rd_T25 x1 x5).f2)) || (!(((rd_T25 x0 x5).f3) == ((rd_T25 x1 x5).f3)) || (!(((rd_T25 x0 x5).f4) == ((rd_T25 x1 x5).f4))))))) = true then (some false) else (laws_sameIns.l0 k x0 x1 (wrap64 (x5 + 1)))) else (none)) else (none)) else (some true)
def laws_sameIns.f (k : Nat) (l0 : List (S25)) (l1 : List (S25)) : Option (Bool) := if (l0.length : Int) = (l1.length : Int) then (laws_sameIns.l0 k l0 l1 0) else (some false)
theorem laws_sameIns.mono_l : ∀ k, (∀ y0 y1 y2, LeO (laws_sameIns.l0 k y0 y1 y2) (laws_sameIns.l0 (k + 1) y0 y1 y2))
  | 0 => fun _ _ _ r h => by simp [laws_sameIns.l0] at h
  | k + 1 => by
    have ih0 := laws_sameIns.mono_l k
    · intro y0 y1 y2
      unfold laws_sameIns.l0
      repeat' first
      | (with_reducible exact ih0 _ _ _)
      | (with_reducible exact LeO.refl _)
      | (with_reducible exact LeO.none _)
      | (with_reducible refine LeO.ite ?_ ?_)
      | (with_reducible refine LeO.bind ?_ (fun _ => ?_))
      | exact ih0 _ _ _
      | exact LeO.none _
      | refine LeO.ite ?_ ?_
      | refine LeO.bind ?_ (fun _ => ?_)
theorem laws_sameIns.mono : ∀ a0 a1 k, LeO (laws_sameIns.f k a0 a1) (laws_sameIns.f (k + 1) a0 a1) := by
  intro a0 a1 k; have ih0 := laws_sameIns.mono_l k
  unfold laws_sameIns.f
  repeat' first
      | (with_reducible exact ih0 _ _ _)
      | (with_reducible exact LeO.refl _)
      | (with_reducible exact LeO.none _)
      | (with_reducible refine LeO.ite ?_ ?_)
      | (with_reducible refine LeO.bind ?_ (fun _ => ?_))
      | exact ih0 _ _ _
      | exact LeO.none _
      | refine LeO.ite ?_ ?_
      | refine LeO.bind ?_ (fun _ => ?_)
set_option maxHeartbeats 8000000 in
set_option maxRecDepth 100000 in
theorem laws_sameIns.calls (k : Nat) (A0 : Option Addr) (c0 : Nat) (l0 : List (S25)) (A1 : Option Addr) (c1 : Nat) (l1 : List (S25)) (r : Bool) (w : World) (hr0 : Kd.C k25 w A0 l0.length l0) (hc0 : l0.length ≤ c0) (hr1 : Kd.C k25 w A1 l1.length l1) (hc1 : l1.length ≤ c1) (h : laws_sameIns.f k l0 l1 = some r) :
    Calls Tryz.prog 17 #[.slice A0 l0.length c0, .slice A1 l1.length c1] w fun e w' => e = .returned (.bool r) ∧ Drawn0 w w' := by
  have hu25 := Tryz.underlying25; have bi := Aside0.mk hr0; have bx := Aside0.mk hc0; clear hr0 hc0; have df := Aside0.mk hr1; have e2 := Aside0.mk hc1; clear hr1 hc1; have H : (if (l0.length : Int) = (l1.length : Int) then (laws_sameIns.l0 k l0 l1 0) else (some false)) = some r := h; clear h
  by_cases c3 : (l0.length : Int) = (l1.length : Int)
  · rw [if_pos c3] at H
    have c3b0 : ((l0.length : Int) == (l1.length : Int)) = true := beq_iff_eq.mpr c3; have c3b1 : ((l0.length : Int) != (l1.length : Int)) = false := bne_eq_false_iff_eq.mpr c3; have c3b2 : (l0.length == l1.length) = true := by first | simpa using c3 | (simp at c3 ⊢; omega)
    clear c3; have H' := Aside0.mk H; clear H
    go_enter Tryz.func17, Tryz.ntmps17
    go_wp2
    repeat (go_quiet (fail); try go_wp2)
    go_loopg [5] k (fun kq v5 w' => ∃ (ba : Int), v5 = .int .i64 ba ∧ Aside0 (laws_sameIns.l0 kq l0 l1 ba = some r) ∧ Aside0 (kq ≤ k) ∧ Drawn0 w w')
    case atStart => exact ⟨(0), (by first | rfl | (simp; done) | (simp [*]; done)), H', ⟨Nat.le_refl _⟩, by repeat (first | exact Drawn0.refl _ | apply Drawn0.step)⟩
    case round =>
      clear H'; try clear c1
      try clear p2
      try clear c3
      try clear c3b0
      try clear c3b1
      try clear c3b2
      obtain ⟨ba, rfl, HA, bj, ⟨m1, rfl⟩⟩ := hrel
      cases gk with
      | zero => exact absurd HA.out (by simp [laws_sameIns.l0])
      | succ k1 =>
        have H := HA.out; clear HA; simp only [laws_sameIns.l0] at H
        by_cases c4 : ba < (l0.length : Int)
        · rw [if_pos c4] at H
          have c4b0 : decide (ba < (l0.length : Int)) = true := decide_eq_true c4; clear c4
          by_cases c5 : 0 ≤ ba
          · rw [if_pos c5] at H
            have c5b0 : decide (0 ≤ ba) = true := decide_eq_true c5; clear c5
            by_cases c6 : ba < (l1.length : Int)
            · rw [if_pos c6] at H
              have c6b0 : decide (ba < (l1.length : Int)) = true := decide_eq_true c6; clear c6
              by_cases c7 : (!(((rd_T25 l0 ba).f0) == ((rd_T25 l1 ba).f0)) || (!(((rd_T25 l0 ba).f1) == ((rd_T25 l1 ba).f1)) || (!(((rd_T25 l0 ba).f2) == ((rd_T25 l1 ba).f2)) || (!(((rd_T25 l0 ba).f3) == ((rd_T25 l1 ba).f3)) || (!(((rd_T25 l0 ba).f4) == ((rd_T25 l1 ba).f4))))))) = true
              · rw [if_pos c7] at H
                have c7b0 : (!(((rd_T25 l0 ba).f0) == ((rd_T25 l1 ba).f0)) || (!(((rd_T25 l0 ba).f1) == ((rd_T25 l1 ba).f1)) || (!(((rd_T25 l0 ba).f2) == ((rd_T25 l1 ba).f2)) || (!(((rd_T25 l0 ba).f3) == ((rd_T25 l1 ba).f3)) || (!(((rd_T25 l0 ba).f4) == ((rd_T25 l1 ba).f4))))))) = true := c7; clear c7; obtain rfl := Option.some.inj H; have p441 : 0 ≤ (ba : Int) := of_decide_eq_true (by first | (with_reducible assumption) | assumption); have q441 : ba < (l0.length : Int) := of_decide_eq_true (by first | (with_reducible assumption) | assumption); obtain ⟨dA, e441, dB, dC, dD, dE, dF⟩ := at_T25 bi.out ba p441 q441
                cases e441
                replace p441 := eq_true p441; replace q441 := eq_true q441; have p442 : 0 ≤ (ba : Int) := of_decide_eq_true (by first | (with_reducible assumption) | assumption); have q442 : ba < (l1.length : Int) := of_decide_eq_true (by first | (with_reducible assumption) | assumption); obtain ⟨dG, e442, dH, dI, dJ, dK, dL⟩ := at_T25 df.out ba p442 q442
                cases e442
                replace p442 := eq_true p442; replace q442 := eq_true q442; go_wp2
                repeat (go_quiet (fail); try go_wp2)
                go_ret
                exact ⟨by first | rfl | (simp; done) | (simp [*]; done), by repeat (first | exact Drawn0.refl _ | apply Drawn0.step)⟩
              · rw [if_neg c7] at H
                have c7b0 : (!(((rd_T25 l0 ba).f0) == ((rd_T25 l1 ba).f0)) || (!(((rd_T25 l0 ba).f1) == ((rd_T25 l1 ba).f1)) || (!(((rd_T25 l0 ba).f2) == ((rd_T25 l1 ba).f2)) || (!(((rd_T25 l0 ba).f3) == ((rd_T25 l1 ba).f3)) || (!(((rd_T25 l0 ba).f4) == ((rd_T25 l1 ba).f4))))))) = false := by simpa using c7
                clear c7; have H' := Aside0.mk H; clear H; have p441 : 0 ≤ (ba : Int) := of_decide_eq_true (by first | (with_reducible assumption) | assumption); have q441 : ba < (l0.length : Int) := of_decide_eq_true (by first | (with_reducible assumption) | assumption); obtain ⟨dA, e441, dB, dC, dD, dE, dF⟩ := at_T25 bi.out ba p441 q441
                cases e441
                replace p441 := eq_true p441; replace q441 := eq_true q441; have p442 : 0 ≤ (ba : Int) := of_decide_eq_true (by first | (with_reducible assumption) | assumption); have q442 : ba < (l1.length : Int) := of_decide_eq_true (by first | (with_reducible assumption) | assumption); obtain ⟨dG, e442, dH, dI, dJ, dK, dL⟩ := at_T25 df.out ba p442 q442
                cases e442
                replace p442 := eq_true p442; replace q442 := eq_true q442; go_wp2
                repeat (go_quiet (fail); try go_wp2)
                go_roundg k1
                case measure => have := bj.out; omega
                case rel => exact ⟨(wrap64 (ba + 1)), (by first | rfl | (simp; done) | (simp [*]; done)), H', ⟨by have := bj.out; omega⟩, by repeat (first | exact Drawn0.refl _ | apply Drawn0.step)⟩
            · rw [if_neg c6] at H
              exact absurd H (by simp)
          · rw [if_neg c5] at H
            exact absurd H (by simp)
        · rw [if_neg c4] at H
          have c4b0 : decide (ba < (l0.length : Int)) = false := decide_eq_false c4; clear c4; obtain rfl := Option.some.inj H; go_wp2
          repeat (go_quiet (fail); try go_wp2)
          go_ret
          exact ⟨by first | rfl | (simp; done) | (simp [*]; done), by repeat (first | exact Drawn0.refl _ | apply Drawn0.step)⟩
  · rw [if_neg c3] at H
    have c3b0 : ((l0.length : Int) == (l1.length : Int)) = false := beq_eq_false_iff_ne.mpr c3; have c3b1 : ((l0.length : Int) != (l1.length : Int)) = true := bne_iff_ne.mpr c3; have c3b2 : (l0.length == l1.length) = false := by first | simpa using c3 | (simp at c3 ⊢; omega)
    obtain rfl := Option.some.inj H
    go_enter Tryz.func17, Tryz.ntmps17
    go_wp2
    repeat (go_quiet (fail); try go_wp2)
    go_ret
    exact ⟨by first | rfl | (simp; done) | (simp [*]; done), by repeat (first | exact Drawn0.refl _ | apply Drawn0.step)⟩

/-! ### spec_DrawCodeRead: function 18 -/
def spec_DrawCodeRead.f (k : Nat) (l0 : List Int) : Option (ByteArray) := (spec_l1New.f k l0).bind fun bz => ((spec_l6DrawCode.f k bz.1 bz.2.1 bz.2.2).bind fun bu => ((spec_CodeText.f k bu.1).bind fun bs => ((spec_l7Dent.f bz.1 bu.2.1 bu.2.2 bs).bind fun bA => (some bA.1))))
theorem spec_DrawCodeRead.mono : ∀ a0 k, LeO (spec_DrawCodeRead.f k a0) (spec_DrawCodeRead.f (k + 1) a0) := by
  intro a0 k
  unfold spec_DrawCodeRead.f
  repeat' first
      | (with_reducible exact spec_CodeText.mono _ _)
      | (with_reducible exact spec_l1New.mono _ _)
      | (with_reducible exact spec_l6DrawCode.mono _ _ _ _)
      | (with_reducible exact LeO.refl _)
      | (with_reducible exact LeO.none _)
      | (with_reducible refine LeO.ite ?_ ?_)
      | (with_reducible refine LeO.bind ?_ (fun _ => ?_))
      | exact spec_CodeText.mono _ _
      | exact spec_l1New.mono _ _
      | exact spec_l6DrawCode.mono _ _ _ _
      | exact LeO.none _
      | refine LeO.ite ?_ ?_
      | refine LeO.bind ?_ (fun _ => ?_)
set_option maxHeartbeats 8000000 in
set_option maxRecDepth 100000 in
theorem spec_DrawCodeRead.calls (k : Nat) (A0 : Option Addr) (c0 : Nat) (l0 : List Int) (r : ByteArray) (w : World) (hr0 : Kd.C (Kd.int .u8) w A0 l0.length l0) (hc0 : l0.length ≤ c0) (h : spec_DrawCodeRead.f k l0 = some r) :
    Calls Tryz.prog 18 #[.slice A0 l0.length c0] w fun e w' => e = .returned (.string r) ∧ Below w.heap.size w w' := by
  have bi := Aside0.mk hr0; have bx := Aside0.mk hc0; clear hr0 hc0; have HB := Aside0.mk (Below.refl w.heap.size w); have H : ((spec_l1New.f k l0).bind fun bz => ((spec_l6DrawCode.f k bz.1 bz.2.1 bz.2.2).bind fun bu => ((spec_CodeText.f k bu.1).bind fun bs => ((spec_l7Dent.f bz.1 bu.2.1 bu.2.2 bs).bind fun bA => (some bA.1))))) = some r := h; clear h; replace H := Option.bind_eq_some_iff.mp H; obtain ⟨⟨bB, b8, b9⟩, A20, H⟩ := H; replace H : ((spec_l6DrawCode.f k bB b8 b9).bind fun bu => ((spec_CodeText.f k bu.1).bind fun bs => ((spec_l7Dent.f bB bu.2.1 bu.2.2 bs).bind fun bA => (some bA.1)))) = some r := H; have A2 := Aside0.mk A20; clear A20; replace H := Option.bind_eq_some_iff.mp H; obtain ⟨⟨bT, bM, bN⟩, A30, H⟩ := H; replace H : ((spec_CodeText.f k bT).bind fun bs => ((spec_l7Dent.f bB bM bN bs).bind fun bA => (some bA.1))) = some r := H; have A3 := Aside0.mk A30; clear A30; replace H := Option.bind_eq_some_iff.mp H; obtain ⟨bs, A40, H⟩ := H; replace H : ((spec_l7Dent.f bB bM bN bs).bind fun bA => (some bA.1)) = some r := H; have A4 := Aside0.mk A40; clear A40; replace H := Option.bind_eq_some_iff.mp H; obtain ⟨⟨dg, dM, dN⟩, A50, H⟩ := H; replace H : (some dg) = some r := H; have A5 := Aside0.mk A50; clear A50; obtain rfl := Option.some.inj H
  go_enter Tryz.func18, Tryz.ntmps18
  go_wp2_with (first | ((with_reducible refine gate_callee (f := 36) rfl ?_); refine goesM (some 5) rfl rfl Tryz.func36 (by kernel_rfl) rfl #[.slice A0 l0.length c0] rfl ?_; (with_reducible refine (spec_l1New.calls k _ _ l0 bB b8 b9 w _ ?side1 ?side2 ?side3 A2.out).mono ?_); (case side1 => exact nbe HB); (case side2 => exact bi.out); (case side3 => exact bx.out); rintro e w6 ⟨g446, rfl, hi, hb, hb2⟩; refine ⟨_, rfl, ?_⟩; have HI446 := Aside0.mk (hi); replace HB := Aside0.mk (hb); (try clear hb)) | ((with_reducible refine gate_callee (f := 46) rfl ?_); refine goesM (some 8) rfl rfl Tryz.func46 (by kernel_rfl) rfl #[.pointer (some ⟨g446, 0, none⟩)] rfl ?_; (with_reducible refine (spec_l6DrawCode.calls k g446 bB b8 b9 bT bM bN w _ ?side1 ?side2 A3.out).mono ?_); (case side1 => exact IsS74.n); (case side2 => exact IsS74.nb); rintro e w7 ⟨e3, rfl, dh, hi, hb, hk⟩; refine ⟨_, rfl, ?_⟩; have bC := Aside0.mk (Kd.R_lower dh (below_size (IsS74.nb))); replace HB := Aside0.mk (hb); replace HI446 := Aside0.mk (hi); (try clear hb); (try clear dh); obtain ⟨dO, dP, dQ⟩ := Kd.R_slice bC.out; subst dQ) | ((with_reducible refine gate_callee (f := 14) rfl ?_); refine goesM (some 9) rfl rfl Tryz.func14 (by kernel_rfl) rfl #[.slice dO bT.length dP] rfl ?_; (with_reducible refine (spec_CodeText.calls k _ _ bT bs _ ?side1 ?side2 A4.out).mono ?_); (case side1 => repeat (first | exact (Kd.R_reads' bC.out).2.2 | (with_reducible refine Kd.C_alloc ?_ _) | (with_reducible refine Kd.C_drewN ?_ _) | (with_reducible refine Kd.C_drew ?_))); (case side2 => exact (Kd.R_reads' bC.out).2.1); rintro e w9 ⟨rfl, hb⟩; refine ⟨_, rfl, ?_⟩; have di := nR bC hb; have dj := Aside0.mk (IsS74.below (IsS74.n) hb); have dk := Aside0.mk (below_step (IsS74.nb) hb); clear bC HI446 HB; have bC := di; have HI446 := dj; have HB := dk; clear di dj dk; (try clear hb)) | ((with_reducible refine gate_callee (f := 37) rfl ?_); refine goesM (some 10) rfl rfl Tryz.func37 (by kernel_rfl) rfl #[.pointer (some ⟨g446, 0, none⟩), .string bs] rfl ?_; (with_reducible refine (spec_l7Dent.calls g446 bB bM bN bs dg dM dN w _ ?side1 ?side2 A5.out).mono ?_); (case side1 => exact IsS74.n); (case side2 => exact IsS74.nb); rintro e dq ⟨rfl, hi, hb, hk⟩; refine ⟨_, rfl, ?_⟩; replace bC := Aside0.mk (Kd.R_mono (Kd.R_keep (IsS74.apart (show IsS74 w _ g446 bB bM bN from IsS74.n) (nRo bC) (by decide)) hk (fun _ h => h.2)) (fun _ h => h.1)); replace HB := Aside0.mk (hb); replace HI446 := Aside0.mk (hi); (try clear hb)))
  go_ret
  exact ⟨er_, IsS74.nb⟩

end Go.Proofs.YtlmcikjjeidnfaaGreatDoor.PFnTexts
