-- Written by a program of this session (wip/patch.py turns a copy of the kit's print): the functions that the law reaches, and their walks.
import Derived.Test.YtlmcikjjeidnfaaGreatDoorPFnTextsx0
import Derived.Test.YtlmcikjjeidnfaaGreatDoorCFnTexts
namespace Go.Proofs.YtlmcikjjeidnfaaGreatDoor.PFnTexts
open Go.RowKit Go.Proofs.YtlmcikjjeidnfaaGreatDoorW.PrintWords Go.Proofs.YtlmcikjjeidnfaaGreatDoorW.PrintLast Go.Proofs.YtlmcikjjeidnfaaGreatDoorW.PrintMore Go.Proofs.YtlmcikjjeidnfaaGreatDoorW.Mine
attribute [local go_sem] max2_int min2_int max_two min_two max_three min_three max_four min_four   -- for this text's walks alone
set_option linter.unusedVariables false
set_option linter.unusedSimpArgs false

/-! ### spec_l7Num: function 40 -/
mutual
def spec_l7Num.j0 : Nat → ByteArray → Int → Bool → Option (Int)
 | 0, _, _, _ => none
 | k + 1, x0, x3, bq => if bq = true then (spec_l7Num.j1 k x0 1) else (spec_l7Num.j1 k x0 x3)
def spec_l7Num.j1 : Nat → ByteArray → Int → Option (Int)
 | 0, _, _ => none
 | k + 1, x0, x3 => spec_l7Num.l0 k x0 x3 0 x3
def spec_l7Num.l0 : Nat → ByteArray → Int → Int → Int → Option (Int)
 | 0, _, _, _, _ => none
 | k + 1, x0, x3, x4, x5 => if x5 < (x0.size : Int) then (spec_l7Num.j3 k x0 x3 x4 x5 (decide (x5 < (wrap64 (x3 + 3))))) else (spec_l7Num.j3 k x0 x3 x4 x5 false)
def spec_l7Num.j3 : Nat → ByteArray → Int → Int → Int → Bool → Option (Int)
 | 0, _, _, _, _, _ => none
 | k + 1, x0, x3, x4, x5, br => if br = true then (if 0 ≤ x5 then (if x5 < (x0.size : Int) then (if (bt x0 x5) < 48 then (some 0) else (if (bt x0 x5) > 57 then (some 0) else (spec_l7Num.l0 k x0 x3 (wrap64 ((wrap64 ((wrap64 (10 * x4)) + (wrap64 (bt x0 x5)))) - 48)) (wrap64 (x5 + 1))))) else (none)) else (none)) else (if x3 = 1 then (if 0 < (x0.size : Int) then (if (bt x0 0) = 45 then (some (wrap64 (-x4))) else (some x4)) else (none)) else (some x4))
end
def spec_l7Num.f (k : Nat) (a0 : ByteArray) : Option (Int) := if a0.toList = ([] : List UInt8) then (spec_l7Num.j0 k a0 0 false) else (if 0 < (a0.size : Int) then (if (bt a0 0) = 45 then (spec_l7Num.j0 k a0 0 true) else (spec_l7Num.j0 k a0 0 ((bt a0 0) == 114))) else (none))
theorem spec_l7Num.mono_l : ∀ k, (∀ y0 y1 y2, LeO (spec_l7Num.j0 k y0 y1 y2) (spec_l7Num.j0 (k + 1) y0 y1 y2)) ∧ (∀ y0 y1, LeO (spec_l7Num.j1 k y0 y1) (spec_l7Num.j1 (k + 1) y0 y1)) ∧ (∀ y0 y1 y2 y3, LeO (spec_l7Num.l0 k y0 y1 y2 y3) (spec_l7Num.l0 (k + 1) y0 y1 y2 y3)) ∧ (∀ y0 y1 y2 y3 y4, LeO (spec_l7Num.j3 k y0 y1 y2 y3 y4) (spec_l7Num.j3 (k + 1) y0 y1 y2 y3 y4))
 | 0 => ⟨fun _ _ _ r h => by simp [spec_l7Num.j0] at h, fun _ _ r h => by simp [spec_l7Num.j1] at h, fun _ _ _ _ r h => by simp [spec_l7Num.l0] at h, fun _ _ _ _ _ r h => by simp [spec_l7Num.j3] at h⟩
 | k + 1 => by
  obtain ⟨ih0, ih1, ih2, ih3⟩ := spec_l7Num.mono_l k; refine ⟨?_, ?_, ?_, ?_⟩
  ·intro y0 y1 y2
   unfold spec_l7Num.j0
   repeat' first
   | (with_reducible exact ih0 _ _ _)
   | (with_reducible exact ih1 _ _)
   | (with_reducible exact ih2 _ _ _ _)
   | (with_reducible exact ih3 _ _ _ _ _)
   | (with_reducible exact LeO.refl _)
   | (with_reducible exact LeO.none _)
   | (with_reducible refine LeO.ite ?_ ?_)
   | (with_reducible refine LeO.bind ?_ (fun _ => ?_))
   | exact ih0 _ _ _
   | exact ih1 _ _
   | exact ih2 _ _ _ _
   | exact ih3 _ _ _ _ _
   | exact LeO.none _
   | refine LeO.ite ?_ ?_
   | refine LeO.bind ?_ (fun _ => ?_)
  ·intro y0 y1
   unfold spec_l7Num.j1
   repeat' first
   | (with_reducible exact ih0 _ _ _)
   | (with_reducible exact ih1 _ _)
   | (with_reducible exact ih2 _ _ _ _)
   | (with_reducible exact ih3 _ _ _ _ _)
   | (with_reducible exact LeO.refl _)
   | (with_reducible exact LeO.none _)
   | (with_reducible refine LeO.ite ?_ ?_)
   | (with_reducible refine LeO.bind ?_ (fun _ => ?_))
   | exact ih0 _ _ _
   | exact ih1 _ _
   | exact ih2 _ _ _ _
   | exact ih3 _ _ _ _ _
   | exact LeO.none _
   | refine LeO.ite ?_ ?_
   | refine LeO.bind ?_ (fun _ => ?_)
  ·intro y0 y1 y2 y3
   unfold spec_l7Num.l0
   repeat' first
   | (with_reducible exact ih0 _ _ _)
   | (with_reducible exact ih1 _ _)
   | (with_reducible exact ih2 _ _ _ _)
   | (with_reducible exact ih3 _ _ _ _ _)
   | (with_reducible exact LeO.refl _)
   | (with_reducible exact LeO.none _)
   | (with_reducible refine LeO.ite ?_ ?_)
   | (with_reducible refine LeO.bind ?_ (fun _ => ?_))
   | exact ih0 _ _ _
   | exact ih1 _ _
   | exact ih2 _ _ _ _
   | exact ih3 _ _ _ _ _
   | exact LeO.none _
   | refine LeO.ite ?_ ?_
   | refine LeO.bind ?_ (fun _ => ?_)
  ·intro y0 y1 y2 y3 y4
   unfold spec_l7Num.j3
   repeat' first
   | (with_reducible exact ih0 _ _ _)
   | (with_reducible exact ih1 _ _)
   | (with_reducible exact ih2 _ _ _ _)
   | (with_reducible exact ih3 _ _ _ _ _)
   | (with_reducible exact LeO.refl _)
   | (with_reducible exact LeO.none _)
   | (with_reducible refine LeO.ite ?_ ?_)
   | (with_reducible refine LeO.bind ?_ (fun _ => ?_))
   | exact ih0 _ _ _
   | exact ih1 _ _
   | exact ih2 _ _ _ _
   | exact ih3 _ _ _ _ _
   | exact LeO.none _
   | refine LeO.ite ?_ ?_
   | refine LeO.bind ?_ (fun _ => ?_)
theorem spec_l7Num.mono : ∀ a0 k, LeO (spec_l7Num.f k a0) (spec_l7Num.f (k + 1) a0) := by
 intro a0 k; obtain ⟨ih0, ih1, ih2, ih3⟩ := spec_l7Num.mono_l k
 unfold spec_l7Num.f
 repeat' first
   | (with_reducible exact ih0 _ _ _)
   | (with_reducible exact ih1 _ _)
   | (with_reducible exact ih2 _ _ _ _)
   | (with_reducible exact ih3 _ _ _ _ _)
   | (with_reducible exact LeO.refl _)
   | (with_reducible exact LeO.none _)
   | (with_reducible refine LeO.ite ?_ ?_)
   | (with_reducible refine LeO.bind ?_ (fun _ => ?_))
   | exact ih0 _ _ _
   | exact ih1 _ _
   | exact ih2 _ _ _ _
   | exact ih3 _ _ _ _ _
   | exact LeO.none _
   | refine LeO.ite ?_ ?_
   | refine LeO.bind ?_ (fun _ => ?_)
set_option maxHeartbeats 8000000 in
set_option maxRecDepth 100000 in
theorem spec_l7Num.calls (k : Nat) (a0 : ByteArray) (r : Int) (w : World) (h : spec_l7Num.f k a0 = some r) :
  Calls Tryz.prog 40 #[.string a0] w fun e w' => e = .returned (.int .i64 r) ∧ Drawn0 w w' := by
 have H : (if a0.toList = ([] : List UInt8) then (spec_l7Num.j0 k a0 0 false) else (if 0 < (a0.size : Int) then (if (bt a0 0) = 45 then (spec_l7Num.j0 k a0 0 true) else (spec_l7Num.j0 k a0 0 ((bt a0 0) == 114))) else (none))) = some r := h; clear h; have bl := Aside0.mk H; clear H
 go_enter Tryz.func40, Tryz.ntmps40
 go_upto_region 2 with (fail)
 go_cut [17] (fun bs wc => ∃ (kq : Nat) (bg : Bool), bs = .bool bg ∧ Aside0 (spec_l7Num.j0 kq a0 0 bg = some r) ∧ Aside0 (kq ≤ k) ∧ Drawn0 w wc)
 case first =>
  have H := bl.out; clear bl
  by_cases c3 : a0.toList = ([] : List UInt8)
  ·rw [if_pos c3] at H
   have c3b0 : (a0.toList == ([] : List UInt8)) = true := beq_iff_eq.mpr c3; have c3b1 : (a0.toList != ([] : List UInt8)) = false := bne_eq_false_iff_eq.mpr c3; clear c3; (first | rw [c3b0] | (simp only [i64_w, i32_w]; rw [c3b0]) | skip); have H' := Aside0.mk H; clear H; go_wp2
   go_meet
   case rel => exact ⟨_, (false), (by first | rfl | (simp; done) | (simp [*]; done)), H', ⟨by first | omega | exact Nat.le_refl _⟩, by repeat (first | exact Drawn0.refl _ | apply Drawn0.step)⟩
  ·rw [if_neg c3] at H
   have c3b0 : (a0.toList == ([] : List UInt8)) = false := beq_eq_false_iff_ne.mpr c3; have c3b1 : (a0.toList != ([] : List UInt8)) = true := bne_iff_ne.mpr c3; (first | rw [c3b0] | (simp only [i64_w, i32_w]; rw [c3b0]) | skip)
   by_cases c4 : 0 < (a0.size : Int)
   ·rw [if_pos c4] at H
    have c4b0 : decide (0 < (a0.size : Int)) = true := decide_eq_true c4; have c4b1 : decide (0 < a0.size) = true := decide_eq_true (by omega); clear c4
    by_cases c6 : (bt a0 0) = 45
    ·rw [if_pos c6] at H
     have c6b0 : ((bt a0 0) == 45) = true := beq_iff_eq.mpr c6; have c6b1 : ((bt a0 0) != 45) = false := bne_eq_false_iff_eq.mpr c6; clear c6; have H' := Aside0.mk H; clear H; have p5 : 0 ≤ (0 : Int) := (by omega); have q5 : 0 < a0.size := (by have : (0 : Int) < (a0.size : Int) := of_decide_eq_true (by first | (with_reducible assumption) | assumption); omega); have bf : ∀ h : 0 < a0.size, ((a0[0]'h).toNat : Int) = bt a0 0 := bt_at a0 0; clear p5; have qi5 : (0 < (a0.size : Int)) = True := eq_true (of_decide_eq_true (by first | (with_reducible assumption) | assumption)); replace q5 := eq_true q5; go_wp2
     go_meet
     case rel => exact ⟨_, (true), (by first | rfl | (simp; done) | (simp [*]; done)), H', ⟨by first | omega | exact Nat.le_refl _⟩, by repeat (first | exact Drawn0.refl _ | apply Drawn0.step)⟩
    ·rw [if_neg c6] at H
     have c6b0 : ((bt a0 0) == 45) = false := beq_eq_false_iff_ne.mpr c6; have c6b1 : ((bt a0 0) != 45) = true := bne_iff_ne.mpr c6; have H' := Aside0.mk H; clear H; have p5 : 0 ≤ (0 : Int) := (by omega); have q5 : 0 < a0.size := (by have : (0 : Int) < (a0.size : Int) := of_decide_eq_true (by first | (with_reducible assumption) | assumption); omega); have bf : ∀ h : 0 < a0.size, ((a0[0]'h).toNat : Int) = bt a0 0 := bt_at a0 0; clear p5; have qi5 : (0 < (a0.size : Int)) = True := eq_true (of_decide_eq_true (by first | (with_reducible assumption) | assumption)); replace q5 := eq_true q5; have p7 : 0 ≤ (0 : Int) := (by omega); have q7 : 0 < a0.size := (by have : (0 : Int) < (a0.size : Int) := of_decide_eq_true (by first | (with_reducible assumption) | assumption); omega); have bh : ∀ h : 0 < a0.size, ((a0[0]'h).toNat : Int) = bt a0 0 := bt_at a0 0; clear p7; have qi7 : (0 < (a0.size : Int)) = True := eq_true (of_decide_eq_true (by first | (with_reducible assumption) | assumption)); replace q7 := eq_true q7; go_wp2
     go_meet
     case rel => exact ⟨_, (((bt a0 0) == 114)), (by first | rfl | (simp; done) | (simp [*]; done)), H', ⟨by first | omega | exact Nat.le_refl _⟩, by repeat (first | exact Drawn0.refl _ | apply Drawn0.step)⟩
   ·rw [if_neg c4] at H
    exact absurd H (by simp)
 case rest =>
  clear bl; try clear p2
  try clear c3
  try clear c3b0
  try clear c3b1
  try clear c4
  try clear c4b0
  try clear c4b1
  try clear p5
  try clear q5
  try clear bf
  try clear qi5
  try clear c6
  try clear c6b0
  try clear c6b1
  try clear p7
  try clear q7
  try clear bh
  try clear qi7
  try clear p5
  try clear p7
  try clear q5
  try clear q7
  obtain ⟨kq, bg, rfl, HA, bd, ⟨mc1, rfl⟩⟩ := hcut
  cases kq with
  | zero => exact absurd HA.out (by simp [spec_l7Num.j0])
  | succ kj1 =>
   have H := HA.out; clear HA; simp only [spec_l7Num.j0] at H; have bm := Aside0.mk H; clear H
   go_upto_if 17 with (fail)
   go_cut [3] (fun v3 wc => ∃ (kq : Nat) (bb : Int), v3 = .int .i64 bb ∧ Aside0 (spec_l7Num.j1 kq a0 bb = some r) ∧ Aside0 (kq ≤ kj1) ∧ Drawn0 w wc)
   case first =>
    have H := bm.out; clear bm
    by_cases c9 : bg = true
    ·subst c9
     have H1 : (spec_l7Num.j1 kj1 a0 1) = some r := by rw [if_pos rfl] at H; exact H
     clear H; have H := H1; clear H1; have H' := Aside0.mk H; clear H; go_wp2
     go_meet
     case rel => exact ⟨_, (1), (by first | rfl | (simp; done) | (simp [*]; done)), H', ⟨by have := bd.out; first | omega | exact Nat.le_refl _⟩, by repeat (first | exact Drawn0.refl _ | apply Drawn0.step)⟩
    ·replace c9 := Bool.eq_false_iff.mpr c9
     subst c9; have H1 : (spec_l7Num.j1 kj1 a0 0) = some r := by rw [if_neg (show ¬ (false = true) by decide)] at H; exact H
     clear H; have H := H1; clear H1; have H' := Aside0.mk H; clear H; go_wp2
     go_meet
     case rel => exact ⟨_, (0), (by first | rfl | (simp; done) | (simp [*]; done)), H', ⟨by have := bd.out; first | omega | exact Nat.le_refl _⟩, by repeat (first | exact Drawn0.refl _ | apply Drawn0.step)⟩
   case rest =>
    clear bm; try clear c1
    try clear p2
    try clear c3
    try clear c3b0
    try clear c3b1
    try clear c4
    try clear c4b0
    try clear c4b1
    try clear p5
    try clear q5
    try clear bf
    try clear qi5
    try clear c6
    try clear c6b0
    try clear c6b1
    try clear p7
    try clear q7
    try clear bh
    try clear qi7
    try clear c9
    try clear p2
    try clear p5
    try clear p7
    try clear q5
    try clear q7
    obtain ⟨kq, bb, rfl, HA, bi, ⟨mc7, rfl⟩⟩ := hcut
    cases kq with
    | zero => exact absurd HA.out (by simp [spec_l7Num.j1])
    | succ kj7 =>
     have H := HA.out; clear HA; simp only [spec_l7Num.j1] at H; have H' := Aside0.mk H; clear H; go_wp2
     go_loopg [4, 5] kj7 (fun kq v4 v5 w' => ∃ (bc : Int) (ba : Int), v4 = .int .i64 bc ∧ v5 = .int .i64 ba ∧ Aside0 (spec_l7Num.l0 kq a0 bb bc ba = some r) ∧ Aside0 (kq ≤ kj7) ∧ Drawn0 w w')
     case atStart => exact ⟨(0), (bb), (by first | rfl | (simp; done) | (simp [*]; done)), (by first | rfl | (simp; done) | (simp [*]; done)), H', ⟨Nat.le_refl _⟩, by repeat (first | exact Drawn0.refl _ | apply Drawn0.step)⟩
     case round =>
      clear H'; try clear c1
      try clear p2
      try clear c3
      try clear c3b0
      try clear c3b1
      try clear c4
      try clear c4b0
      try clear c4b1
      try clear p5
      try clear q5
      try clear bf
      try clear qi5
      try clear c6
      try clear c6b0
      try clear c6b1
      try clear c7
      try clear p7
      try clear q7
      try clear bh
      try clear qi7
      try clear c9
      try clear p2
      try clear p5
      try clear p7
      try clear q5
      try clear q7
      obtain ⟨bc, ba, rfl, rfl, HA, bj, ⟨m3, rfl⟩⟩ := hrel
      cases gk with
      | zero => exact absurd HA.out (by simp [spec_l7Num.l0])
      | succ k3 =>
       have H := HA.out; clear HA; simp only [spec_l7Num.l0] at H; have bn := Aside0.mk H; clear H
       go_upto_region 6 with (fail)
       go_cut [28] (fun bu wc => ∃ (kq : Nat) (bk : Bool), bu = .bool bk ∧ Aside0 (spec_l7Num.j3 kq a0 bb bc ba bk = some r) ∧ Aside0 (kq ≤ k3) ∧ Drawn0 w wc)
       case first =>
        have H := bn.out; clear bn
        by_cases c11 : ba < (a0.size : Int)
        ·rw [if_pos c11] at H
         have c11b0 : decide (ba < (a0.size : Int)) = true := decide_eq_true c11; clear c11; (first | rw [c11b0] | (simp only [i64_w, i32_w]; rw [c11b0]) | skip); have H' := Aside0.mk H; clear H; go_wp2
         go_meet
         case rel => exact ⟨_, (decide (ba < (wrap64 (bb + 3)))), (by first | rfl | (simp; done) | (simp [*]; done)), H', ⟨by have := bd.out; have := bi.out; have := bj.out; first | omega | exact Nat.le_refl _⟩, by repeat (first | exact Drawn0.refl _ | apply Drawn0.step)⟩
        ·rw [if_neg c11] at H
         have c11b0 : decide (ba < (a0.size : Int)) = false := decide_eq_false c11; clear c11; (first | rw [c11b0] | (simp only [i64_w, i32_w]; rw [c11b0]) | skip); have H' := Aside0.mk H; clear H; go_wp2
         go_meet
         case rel => exact ⟨_, (false), (by first | rfl | (simp; done) | (simp [*]; done)), H', ⟨by have := bd.out; have := bi.out; have := bj.out; first | omega | exact Nat.le_refl _⟩, by repeat (first | exact Drawn0.refl _ | apply Drawn0.step)⟩
       case rest =>
        clear bn; try clear c1
        try clear p2
        try clear c3
        try clear c3b0
        try clear c3b1
        try clear c4
        try clear c4b0
        try clear c4b1
        try clear p5
        try clear q5
        try clear bf
        try clear qi5
        try clear c6
        try clear c6b0
        try clear c6b1
        try clear p6
        try clear c7
        try clear p7
        try clear q7
        try clear bh
        try clear qi7
        try clear c9
        try clear c11
        try clear c11b0
        try clear p2
        try clear p5
        try clear p7
        try clear q5
        try clear q7
        obtain ⟨kq, bk, rfl, HA, bo, ⟨mc9, rfl⟩⟩ := hcut
        cases kq with
        | zero => exact absurd HA.out (by simp [spec_l7Num.j3])
        | succ kj9 =>
         have H := HA.out; clear HA; simp only [spec_l7Num.j3] at H
         by_cases c12 : bk = true
         ·subst c12
          have H1 : (if 0 ≤ ba then (if ba < (a0.size : Int) then (if (bt a0 ba) < 48 then (some 0) else (if (bt a0 ba) > 57 then (some 0) else (spec_l7Num.l0 kj9 a0 bb (wrap64 ((wrap64 ((wrap64 (10 * bc)) + (wrap64 (bt a0 ba)))) - 48)) (wrap64 (ba + 1))))) else (none)) else (none)) = some r := by rw [if_pos rfl] at H; exact H
          clear H; have H := H1; clear H1
          by_cases c13 : 0 ≤ ba
          ·rw [if_pos c13] at H
           have c13b0 : decide (0 ≤ ba) = true := decide_eq_true c13; clear c13
           by_cases c14 : ba < (a0.size : Int)
           ·rw [if_pos c14] at H
            have c14b0 : decide (ba < (a0.size : Int)) = true := decide_eq_true c14; clear c14
            by_cases c16 : (bt a0 ba) < 48
            ·rw [if_pos c16] at H
             have c16b0 : decide ((bt a0 ba) < 48) = true := decide_eq_true c16; clear c16; obtain rfl := Option.some.inj H; have p15 : 0 ≤ (ba : Int) := of_decide_eq_true (by first | (with_reducible assumption) | assumption); have q15 : ba < (a0.size : Int) := of_decide_eq_true (by first | (with_reducible assumption) | assumption); have bp := bt_at a0 ba; replace p15 := eq_true p15; replace q15 := eq_true q15; go_wp2
             go_ret
             exact ⟨by first | rfl | (simp; done) | (simp [*]; done), by repeat (first | exact Drawn0.refl _ | apply Drawn0.step)⟩
            ·rw [if_neg c16] at H
             have c16b0 : decide ((bt a0 ba) < 48) = false := decide_eq_false c16; clear c16
             by_cases c18 : (bt a0 ba) > 57
             ·rw [if_pos c18] at H
              have c18b0 : decide (57 < (bt a0 ba)) = true := decide_eq_true c18; clear c18; obtain rfl := Option.some.inj H; have p15 : 0 ≤ (ba : Int) := of_decide_eq_true (by first | (with_reducible assumption) | assumption); have q15 : ba < (a0.size : Int) := of_decide_eq_true (by first | (with_reducible assumption) | assumption); have bp := bt_at a0 ba; replace p15 := eq_true p15; replace q15 := eq_true q15; have p17 : 0 ≤ (ba : Int) := of_decide_eq_true (by first | (with_reducible assumption) | assumption); have q17 : ba < (a0.size : Int) := of_decide_eq_true (by first | (with_reducible assumption) | assumption); have bv := bt_at a0 ba; replace p17 := eq_true p17; replace q17 := eq_true q17; go_wp2
              go_ret
              exact ⟨by first | rfl | (simp; done) | (simp [*]; done), by repeat (first | exact Drawn0.refl _ | apply Drawn0.step)⟩
             ·rw [if_neg c18] at H
              have c18b0 : decide (57 < (bt a0 ba)) = false := decide_eq_false c18; clear c18; have H' := Aside0.mk H; clear H; have p15 : 0 ≤ (ba : Int) := of_decide_eq_true (by first | (with_reducible assumption) | assumption); have q15 : ba < (a0.size : Int) := of_decide_eq_true (by first | (with_reducible assumption) | assumption); have bp := bt_at a0 ba; replace p15 := eq_true p15; replace q15 := eq_true q15; have p17 : 0 ≤ (ba : Int) := of_decide_eq_true (by first | (with_reducible assumption) | assumption); have q17 : ba < (a0.size : Int) := of_decide_eq_true (by first | (with_reducible assumption) | assumption); have bv := bt_at a0 ba; replace p17 := eq_true p17; replace q17 := eq_true q17; have p19 : 0 ≤ (ba : Int) := of_decide_eq_true (by first | (with_reducible assumption) | assumption); have q19 : ba < (a0.size : Int) := of_decide_eq_true (by first | (with_reducible assumption) | assumption); have bx := bt_at a0 ba; replace p19 := eq_true p19; replace q19 := eq_true q19; go_wp2
              go_roundg kj9
              case measure => have := bd.out; have := bi.out; have := bj.out; have := bo.out; omega
              case rel => exact ⟨(wrap64 ((wrap64 ((wrap64 (10 * bc)) + (wrap64 (bt a0 ba)))) - 48)), (wrap64 (ba + 1)), (by first | rfl | (simp; done) | (simp [*]; done)), (by first | rfl | (simp; done) | (simp [*]; done)), H', ⟨by have := bd.out; have := bi.out; have := bj.out; have := bo.out; omega⟩, by repeat (first | exact Drawn0.refl _ | apply Drawn0.step)⟩
           ·rw [if_neg c14] at H
            exact absurd H (by simp)
          ·rw [if_neg c13] at H
           exact absurd H (by simp)
         ·replace c12 := Bool.eq_false_iff.mpr c12
          subst c12; have H1 : (if bb = 1 then (if 0 < (a0.size : Int) then (if (bt a0 0) = 45 then (some (wrap64 (-bc))) else (some bc)) else (none)) else (some bc)) = some r := by rw [if_neg (show ¬ (false = true) by decide)] at H; exact H
          clear H; have H := H1; clear H1
          by_cases c20 : bb = 1
          ·rw [if_pos c20] at H
           have c20b0 : (bb == 1) = true := beq_iff_eq.mpr c20; have c20b1 : (bb != 1) = false := bne_eq_false_iff_eq.mpr c20; clear c20
           by_cases c21 : 0 < (a0.size : Int)
           ·rw [if_pos c21] at H
            have c21b0 : decide (0 < (a0.size : Int)) = true := decide_eq_true c21; have c21b1 : decide (0 < a0.size) = true := decide_eq_true (by omega); clear c21
            by_cases c23 : (bt a0 0) = 45
            ·rw [if_pos c23] at H
             have c23b0 : ((bt a0 0) == 45) = true := beq_iff_eq.mpr c23; have c23b1 : ((bt a0 0) != 45) = false := bne_eq_false_iff_eq.mpr c23; clear c23; obtain rfl := Option.some.inj H; have p22 : 0 ≤ (0 : Int) := (by omega); have q22 : 0 < a0.size := (by have : (0 : Int) < (a0.size : Int) := of_decide_eq_true (by first | (with_reducible assumption) | assumption); omega); have bw : ∀ h : 0 < a0.size, ((a0[0]'h).toNat : Int) = bt a0 0 := bt_at a0 0; clear p22; have qi22 : (0 < (a0.size : Int)) = True := eq_true (of_decide_eq_true (by first | (with_reducible assumption) | assumption)); replace q22 := eq_true q22; go_wp2
             go_ret
             exact ⟨by first | rfl | (simp; done) | (simp [*]; done), by repeat (first | exact Drawn0.refl _ | apply Drawn0.step)⟩
            ·rw [if_neg c23] at H
             have c23b0 : ((bt a0 0) == 45) = false := beq_eq_false_iff_ne.mpr c23; have c23b1 : ((bt a0 0) != 45) = true := bne_iff_ne.mpr c23; obtain rfl := Option.some.inj H; have p22 : 0 ≤ (0 : Int) := (by omega); have q22 : 0 < a0.size := (by have : (0 : Int) < (a0.size : Int) := of_decide_eq_true (by first | (with_reducible assumption) | assumption); omega); have bw : ∀ h : 0 < a0.size, ((a0[0]'h).toNat : Int) = bt a0 0 := bt_at a0 0; clear p22; have qi22 : (0 < (a0.size : Int)) = True := eq_true (of_decide_eq_true (by first | (with_reducible assumption) | assumption)); replace q22 := eq_true q22; go_wp2
             go_ret
             exact ⟨by first | rfl | (simp; done) | (simp [*]; done), by repeat (first | exact Drawn0.refl _ | apply Drawn0.step)⟩
           ·rw [if_neg c21] at H
            exact absurd H (by simp)
          ·rw [if_neg c20] at H
           have c20b0 : (bb == 1) = false := beq_eq_false_iff_ne.mpr c20; have c20b1 : (bb != 1) = true := bne_iff_ne.mpr c20; obtain rfl := Option.some.inj H; go_wp2
           go_ret
           exact ⟨by first | rfl | (simp; done) | (simp [*]; done), by repeat (first | exact Drawn0.refl _ | apply Drawn0.step)⟩

end Go.Proofs.YtlmcikjjeidnfaaGreatDoor.PFnTexts
