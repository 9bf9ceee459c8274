-- Written by a program of this session (wip/patch.py turns a copy of the kit's print): the functions that the law reaches, and their walks.
import Derived.Test.YtednioabjiabiaaPFnMemoryx0
import Derived.Test.YtednioabjiabiaaPFnMemoryx4
import Derived.Test.YtednioabjiabiaaPFnMemoryx5
import Derived.Test.YtednioabjiabiaaCFnMemory
namespace Go.Proofs.Ytednioabjiabiaa.PFnMemory
open Go.RowKit Go.Proofs.YtednioabjiabiaaW.PrintWords Go.Proofs.YtednioabjiabiaaW.PrintLast Go.Proofs.YtednioabjiabiaaW.PrintMore Go.Proofs.YtednioabjiabiaaW.Mine
attribute [local go_sem] max2_int min2_int max_two min_two max_three min_three max_four min_four   -- for this text's walks alone
set_option linter.unusedVariables false
set_option linter.unusedSimpArgs false

/-! ### impl_Read: function 20 -/
mutual
def impl_Read.j0 : Nat → Int → Int → Bool → List (S36) → List Bool → Int → Bool → Int → Int → Int → Int → Option (Int × Bool × Int × Int × Int × Int × Int)
 | 0, _, _, _, _, _, _, _, _, _, _, _ => none
 | k + 1, x2, x8, dY, bs, bP, bQ, bR, bS, bT, bU, bV => if dY = true then (impl_Read.j1 k x2 4 bs bP bQ bR bS bT bU bV) else (impl_Read.j1 k x2 x8 bs bP bQ bR bS bT bU bV)
def impl_Read.j1 : Nat → Int → Int → List (S36) → List Bool → Int → Bool → Int → Int → Int → Int → Option (Int × Bool × Int × Int × Int × Int × Int)
 | 0, _, _, _, _, _, _, _, _, _, _ => none
 | k + 1, x2, x8, bs, bP, bQ, bR, bS, bT, bU, bV => if x8 = 0 then (if 0 ≤ x2 then (if x2 < (bs.length : Int) then ((impl_Taken.f bQ bR bS bT bU bV ((rd_T36 bs x2).f0) ((rd_T36 bs x2).f1) ((rd_T36 bs x2).f2.f0) ((rd_T36 bs x2).f2.f1) ((rd_T36 bs x2).f2.f2) ((rd_T36 bs x2).f2.f3)).bind fun bE => ((impl_Filter.f bs bP bE.1 bE.2.1 bE.2.2.1 bE.2.2.2.1 bE.2.2.2.2.1 bE.2.2.2.2.2).bind fun bk => (some (bk.1, bk.2.1, bk.2.2.1, bk.2.2.2.1, bk.2.2.2.2.1, bk.2.2.2.2.2, 0)))) else (none)) else (none)) else (some (0, false, 0, 0, 0, 0, x8))
end
def impl_Read.f (k : Nat) (l0_0 : List (S36)) (l0_1 : List Bool) (a1_0 : Int) (a1_1 : Bool) (a1_2 : Int) (a1_3 : Int) (a1_4 : Int) (a1_5 : Int) (a2 : Int) : Option (Int × Bool × Int × Int × Int × Int × Int) := (impl_Try.f k a1_0 a1_1 a1_2 a1_3 a1_4 a1_5 a2 1).bind fun bg => (if bg = 0 then ((impl_in.f a2 0 (wrap64 ((l0_0.length : Int) - 1))).bind fun bw => (impl_Read.j0 k a2 bg (!bw) l0_0 l0_1 a1_0 a1_1 a1_2 a1_3 a1_4 a1_5)) else (impl_Read.j0 k a2 bg false l0_0 l0_1 a1_0 a1_1 a1_2 a1_3 a1_4 a1_5))
theorem impl_Read.mono_l : ∀ k, (∀ y0 y1 y2 y3 y4 y5 y6 y7 y8 y9 b7, LeO (impl_Read.j0 k y0 y1 y2 y3 y4 y5 y6 y7 y8 y9 b7) (impl_Read.j0 (k + 1) y0 y1 y2 y3 y4 y5 y6 y7 y8 y9 b7)) ∧ (∀ y0 y1 y2 y3 y4 y5 y6 y7 y8 y9, LeO (impl_Read.j1 k y0 y1 y2 y3 y4 y5 y6 y7 y8 y9) (impl_Read.j1 (k + 1) y0 y1 y2 y3 y4 y5 y6 y7 y8 y9))
 | 0 => ⟨fun _ _ _ _ _ _ _ _ _ _ _ r h => by simp [impl_Read.j0] at h, fun _ _ _ _ _ _ _ _ _ _ r h => by simp [impl_Read.j1] at h⟩
 | k + 1 => by
  obtain ⟨ih0, ih1⟩ := impl_Read.mono_l k; refine ⟨?_, ?_⟩
  ·intro y0 y1 y2 y3 y4 y5 y6 y7 y8 y9 b7
   unfold impl_Read.j0
   repeat' first
   | (with_reducible exact ih0 _ _ _ _ _ _ _ _ _ _ _)
   | (with_reducible exact ih1 _ _ _ _ _ _ _ _ _ _)
   | (with_reducible exact impl_Try.mono _ _ _ _ _ _ _ _ _)
   | (with_reducible exact LeO.refl _)
   | (with_reducible exact LeO.none _)
   | (with_reducible refine LeO.ite ?_ ?_)
   | (with_reducible refine LeO.bind ?_ (fun _ => ?_))
   | exact ih0 _ _ _ _ _ _ _ _ _ _ _
   | exact ih1 _ _ _ _ _ _ _ _ _ _
   | exact impl_Try.mono _ _ _ _ _ _ _ _ _
   | exact LeO.none _
   | refine LeO.ite ?_ ?_
   | refine LeO.bind ?_ (fun _ => ?_)
  ·intro y0 y1 y2 y3 y4 y5 y6 y7 y8 y9
   unfold impl_Read.j1
   repeat' first
   | (with_reducible exact ih0 _ _ _ _ _ _ _ _ _ _ _)
   | (with_reducible exact ih1 _ _ _ _ _ _ _ _ _ _)
   | (with_reducible exact impl_Try.mono _ _ _ _ _ _ _ _ _)
   | (with_reducible exact LeO.refl _)
   | (with_reducible exact LeO.none _)
   | (with_reducible refine LeO.ite ?_ ?_)
   | (with_reducible refine LeO.bind ?_ (fun _ => ?_))
   | exact ih0 _ _ _ _ _ _ _ _ _ _ _
   | exact ih1 _ _ _ _ _ _ _ _ _ _
   | exact impl_Try.mono _ _ _ _ _ _ _ _ _
   | exact LeO.none _
   | refine LeO.ite ?_ ?_
   | refine LeO.bind ?_ (fun _ => ?_)
theorem impl_Read.mono : ∀ a0 a1 a2 a3 a4 a5 a6 a7 a8 k, LeO (impl_Read.f k a0 a1 a2 a3 a4 a5 a6 a7 a8) (impl_Read.f (k + 1) a0 a1 a2 a3 a4 a5 a6 a7 a8) := by
 intro a0 a1 a2 a3 a4 a5 a6 a7 a8 k; obtain ⟨ih0, ih1⟩ := impl_Read.mono_l k
 unfold impl_Read.f
 repeat' first
   | (with_reducible exact ih0 _ _ _ _ _ _ _ _ _ _ _)
   | (with_reducible exact ih1 _ _ _ _ _ _ _ _ _ _)
   | (with_reducible exact impl_Try.mono _ _ _ _ _ _ _ _ _)
   | (with_reducible exact LeO.refl _)
   | (with_reducible exact LeO.none _)
   | (with_reducible refine LeO.ite ?_ ?_)
   | (with_reducible refine LeO.bind ?_ (fun _ => ?_))
   | exact ih0 _ _ _ _ _ _ _ _ _ _ _
   | exact ih1 _ _ _ _ _ _ _ _ _ _
   | exact impl_Try.mono _ _ _ _ _ _ _ _ _
   | exact LeO.none _
   | refine LeO.ite ?_ ?_
   | refine LeO.bind ?_ (fun _ => ?_)
def impl_Read.T6 : Bool × List (List Nat × List Nat) := (true, [([], []), ([], []), ([], []), ([2], [2]), ([], []), ([3, 4], [3, 4]), ([5], [5]), ([1, 6], [1, 6]), ([0, 7, 7], [0, 7]), ([8, 8, 0, 1, 2, 3, 4, 5, 6, 7, 8], [8]), ([9, 0, 1, 2, 3, 4, 5, 6, 7, 8, 9], [])])
def impl_Read.B6 : List Nat := [0, 0, 0, 4, 0, 28, 60, 126, 255, 511, 1023]
theorem impl_Read.tab6 : rtab .any (opsOf Try.f20 6) = impl_Read.T6 := by kernel_rfl
theorem impl_Read.bits6 : waitsOk impl_Read.T6.2 impl_Read.B6 = true := by kernel_rfl
set_option maxHeartbeats 8000000 in
set_option maxRecDepth 100000 in
theorem impl_Read.calls (k : Nat) (A0_0 : Option Addr) (c0_0 : Nat) (l0_0 : List (S36)) (A0_1 : Option Addr) (c0_1 : Nat) (l0_1 : List Bool) (a1_0 : Int) (a1_1 : Bool) (a1_2 : Int) (a1_3 : Int) (a1_4 : Int) (a1_5 : Int) (a2 : Int) (r1 : Int) (r2 : Bool) (r3 : Int) (r4 : Int) (r5 : Int) (r6 : Int) (r7 : Int) (w : World) (hr0_0 : Kd.C k36 w A0_0 l0_0.length l0_0) (hc0_0 : l0_0.length ≤ c0_0) (hr0_1 : Kd.C Kd.bool w A0_1 l0_1.length l0_1) (hc0_1 : l0_1.length ≤ c0_1) (h : impl_Read.f k l0_0 l0_1 a1_0 a1_1 a1_2 a1_3 a1_4 a1_5 a2 = some (r1, r2, r3, r4, r5, r6, r7)) :
  Calls Try.prog 20 #[.agg #[.slice A0_0 l0_0.length c0_0, .slice A0_1 l0_1.length c0_1], .agg #[.int .i64 a1_0, .bool a1_1, .int .i64 a1_2, .int .i64 a1_3, .int .i64 a1_4, .int .i64 a1_5], .int .i64 a2] w fun e w' => e = .returned (.tuple #[.agg #[.int .i64 r1, .bool r2, .int .i64 r3, .int .i64 r4, .int .i64 r5, .int .i64 r6], .int .i64 r7]) ∧ Below w.heap.size w w' := by
 have hu27 := Try.underlying27; have hu36 := Try.underlying36; have dt := Aside0.mk hr0_0; have dZ := Aside0.mk hc0_0; clear hr0_0 hc0_0; have d0 := Aside0.mk hr0_1; have d1 := Aside0.mk hc0_1; clear hr0_1 hc0_1; have HB := Aside0.mk (Below.refl w.heap.size w); have H : ((impl_Try.f k a1_0 a1_1 a1_2 a1_3 a1_4 a1_5 a2 1).bind fun bg => (if bg = 0 then ((impl_in.f a2 0 (wrap64 ((l0_0.length : Int) - 1))).bind fun bw => (impl_Read.j0 k a2 bg (!bw) l0_0 l0_1 a1_0 a1_1 a1_2 a1_3 a1_4 a1_5)) else (impl_Read.j0 k a2 bg false l0_0 l0_1 a1_0 a1_1 a1_2 a1_3 a1_4 a1_5))) = some (r1, r2, r3, r4, r5, r6, r7) := h; clear h; replace H := Option.bind_eq_some_iff.mp H; obtain ⟨bg, A40, H⟩ := H; replace H : (if bg = 0 then ((impl_in.f a2 0 (wrap64 ((l0_0.length : Int) - 1))).bind fun bw => (impl_Read.j0 k a2 bg (!bw) l0_0 l0_1 a1_0 a1_1 a1_2 a1_3 a1_4 a1_5)) else (impl_Read.j0 k a2 bg false l0_0 l0_1 a1_0 a1_1 a1_2 a1_3 a1_4 a1_5)) = some (r1, r2, r3, r4, r5, r6, r7) := H; have A4 := Aside0.mk A40; clear A40; have b8 := Aside0.mk H; clear H
 go_enter Try.func20, Try.ntmps20
 go_upto_region 2 with (first | ((with_reducible refine gate_dst (N := 3) rfl ?_); (try (refine gate_guard (by rfl) ?_; dsimp only)); refine bxe 3 #[.slice A0_0 l0_0.length c0_0, .slice A0_1 l0_1.length c0_1] 27 ?_; intro bW hg w6 hbox hb; have bd := hbox; have eb := nge HB hg; have ec := nge HB hg; replace HB := nbs HB hb; clear hb hbox hg) | ((with_reducible refine gate_dst (N := 4) rfl ?_); (try (refine gate_guard (by rfl) ?_; dsimp only)); refine bxe 4 #[.int .i64 a1_0, .bool a1_1, .int .i64 a1_2, .int .i64 a1_3, .int .i64 a1_4, .int .i64 a1_5] 36 ?_; intro bz hg w7 hbox hb; have bb := hbox; have ed := nge HB hg; have ee := nge HB hg; have du := nlt bd hg; have dv := ngt bd hg; replace bd := nblk bd hb; replace HB := nbs HB hb; clear hb hbox hg) | ((with_reducible refine gate_dst (N := 6) rfl ?_); (try (refine gate_guard (by rfl) ?_; dsimp only)); refine bxe 6 #[.int .i64 0, .bool false, .int .i64 0, .int .i64 0, .int .i64 0, .int .i64 0] 36 ?_; intro ba hg w8 hbox hb; have bf := hbox; have bc := nge HB hg; have ef := nge HB hg; have bH := nlt bd hg; have b9 := ngt bd hg; have bx := nlt bb hg; have da := ngt bb hg; replace bd := nblk bd hb; replace bb := nblk bb hb; replace HB := nbs HB hb; clear hb hbox hg; have eg := dv.out; have eh := du.out; have ei := bx.out; have ej := da.out; obtain ⟨dw, dx, dy, dz, dA, dB⟩ := c6e bb; obtain ⟨dC, dD, dE, dF, dG, dH⟩ := z6_ bb) | ((with_reducible refine gate_callee (f := 42) rfl ?_); refine goesM (some 11) rfl rfl Try.func42 (by kernel_rfl) rfl #[.agg #[.int .i64 a1_0, .bool a1_1, .int .i64 a1_2, .int .i64 a1_3, .int .i64 a1_4, .int .i64 a1_5], .int .i64 a2, .int .i64 1] rfl ?_; (with_reducible refine (impl_Try.calls k a1_0 a1_1 a1_2 a1_3 a1_4 a1_5 a2 1 bg _ A4.out).mono ?_); rintro e ek ⟨rfl, hb⟩; refine ⟨_, rfl, ?_⟩; replace bd := nblk bd hb; replace bb := nblk bb hb; replace bf := nblk bf hb; replace HB := nbs HB hb; (try clear hb)))
 (try simp only [Act.put, List.setIfInBounds_toArray, List.set_cons_zero, List.set_cons_succ])
 go_cut [22] (fun d2 wc => ∃ (kq : Nat) (bX : Bool), d2 = .bool bX ∧ Aside0 (impl_Read.j0 kq a2 bg bX l0_0 l0_1 a1_0 a1_1 a1_2 a1_3 a1_4 a1_5 = some (r1, r2, r3, r4, r5, r6, r7)) ∧ Aside0 (kq ≤ k) ∧ Aside0 (wc.heap[bW]? = some (.cells #[(.slice A0_0 l0_0.length c0_0), (.slice A0_1 l0_1.length c0_1)] 27 (0, 0))) ∧ Aside0 (wc.heap[bz]? = some (.cells #[.int .i64 a1_0, .bool a1_1, .int .i64 a1_2, .int .i64 a1_3, .int .i64 a1_4, .int .i64 a1_5] 36 (0, 0))) ∧ Aside0 (wc.heap[ba]? = some (.cells #[.int .i64 0, .bool false, .int .i64 0, .int .i64 0, .int .i64 0, .int .i64 0] 36 (0, 0))) ∧ Aside0 (Below w.heap.size w wc))
 case first =>
  have H := b8.out; clear b8
  by_cases c13 : bg = 0
  ·rw [if_pos c13] at H
   have c13b0 : (bg == 0) = true := beq_iff_eq.mpr c13; have c13b1 : (bg != 0) = false := bne_eq_false_iff_eq.mpr c13; clear c13; (first | rw [c13b0] | (simp only [i64_w, i32_w]; rw [c13b0]) | skip); replace H := Option.bind_eq_some_iff.mp H; obtain ⟨bw, A140, H⟩ := H; replace H : (impl_Read.j0 k a2 bg (!bw) l0_0 l0_1 a1_0 a1_1 a1_2 a1_3 a1_4 a1_5) = some (r1, r2, r3, r4, r5, r6, r7) := H; have A14 := Aside0.mk A140; clear A140; have H' := Aside0.mk H; clear H; have el := du.out; have em := dv.out; have en := bH.out; have eo := b9.out; obtain ⟨dI, dJ⟩ := c2e bd; obtain ⟨dK, dL⟩ := z2_ bd
   go_wp2_with (first | (go_at_call 27; (with_reducible refine (impl_in.calls a2 0 (wrap64 ((l0_0.length : Int) - 1)) bw _ A14.out).mono ?_); rintro e w' ⟨rfl, ⟨nd, rfl⟩⟩))
   go_meet
   case rel => exact ⟨_, (!bw), (by first | rfl | (simp; done) | (simp [*]; done)), H', ⟨by first | omega | exact Nat.le_refl _⟩, ⟨nb bd⟩, ⟨nb bb⟩, ⟨nb bf⟩, ⟨nbe HB⟩⟩
  ·rw [if_neg c13] at H
   have c13b0 : (bg == 0) = false := beq_eq_false_iff_ne.mpr c13; have c13b1 : (bg != 0) = true := bne_iff_ne.mpr c13; (first | rw [c13b0] | (simp only [i64_w, i32_w]; rw [c13b0]) | skip); have H' := Aside0.mk H; clear H; go_wp2
   go_meet
   case rel => exact ⟨_, (false), (by first | rfl | (simp; done) | (simp [*]; done)), H', ⟨by first | omega | exact Nat.le_refl _⟩, ⟨nb bd⟩, ⟨nb bb⟩, ⟨nb bf⟩, ⟨nbe HB⟩⟩
 case rest =>
  clear b8; try clear c1
  try clear c2
  try clear p2
  try clear c4
  try clear p6
  try clear c9
  try clear c10
  try clear c13
  try clear c13b0
  try clear c13b1
  try clear c15
  try clear c16
  try clear dw
  try clear dx
  try clear dy
  try clear dz
  try clear dA
  try clear dB
  try clear dI
  try clear dJ
  try clear dC
  try clear dD
  try clear dE
  try clear dF
  try clear dG
  try clear dH
  try clear dK
  try clear dL
  obtain ⟨kq, bX, rfl, HA, dM, bd, bb, bf, HB⟩ := hcut
  cases kq with
  | zero => exact absurd HA.out (by simp [impl_Read.j0])
  | succ kj4 =>
   have H := HA.out; clear HA; simp only [impl_Read.j0] at H; have db := Aside0.mk H; clear H
   go_upto_if 22 with (fail)
   go_cut [8] (fun v8 wc => ∃ (kq : Nat) (bA : Int), v8 = .int .i64 bA ∧ Aside0 (impl_Read.j1 kq a2 bA l0_0 l0_1 a1_0 a1_1 a1_2 a1_3 a1_4 a1_5 = some (r1, r2, r3, r4, r5, r6, r7)) ∧ Aside0 (kq ≤ kj4) ∧ Aside0 (wc.heap[bW]? = some (.cells #[(.slice A0_0 l0_0.length c0_0), (.slice A0_1 l0_1.length c0_1)] 27 (0, 0))) ∧ Aside0 (wc.heap[bz]? = some (.cells #[.int .i64 a1_0, .bool a1_1, .int .i64 a1_2, .int .i64 a1_3, .int .i64 a1_4, .int .i64 a1_5] 36 (0, 0))) ∧ Aside0 (wc.heap[ba]? = some (.cells #[.int .i64 0, .bool false, .int .i64 0, .int .i64 0, .int .i64 0, .int .i64 0] 36 (0, 0))) ∧ Aside0 (Below w.heap.size w wc))
   case first =>
    have H := db.out; clear db
    by_cases c19 : bX = true
    ·subst c19
     have H1 : (impl_Read.j1 kj4 a2 4 l0_0 l0_1 a1_0 a1_1 a1_2 a1_3 a1_4 a1_5) = some (r1, r2, r3, r4, r5, r6, r7) := by rw [if_pos rfl] at H; exact H
     clear H; have H := H1; clear H1; have H' := Aside0.mk H; clear H; go_wp2
     go_meet
     case rel => exact ⟨_, (4), (by first | rfl | (simp; done) | (simp [*]; done)), H', ⟨by have := dM.out; first | omega | exact Nat.le_refl _⟩, ⟨nb bd⟩, ⟨nb bb⟩, ⟨nb bf⟩, ⟨nbe HB⟩⟩
    ·replace c19 := Bool.eq_false_iff.mpr c19
     subst c19; have H1 : (impl_Read.j1 kj4 a2 bg l0_0 l0_1 a1_0 a1_1 a1_2 a1_3 a1_4 a1_5) = some (r1, r2, r3, r4, r5, r6, r7) := by rw [if_neg (show ¬ (false = true) by decide)] at H; exact H
     clear H; have H := H1; clear H1; have H' := Aside0.mk H; clear H; go_wp2
     go_meet
     case rel => exact ⟨_, (bg), (by first | rfl | (simp; done) | (simp [*]; done)), H', ⟨by have := dM.out; first | omega | exact Nat.le_refl _⟩, ⟨nb bd⟩, ⟨nb bb⟩, ⟨nb bf⟩, ⟨nbe HB⟩⟩
   case rest =>
    clear db; try clear c1
    try clear c2
    try clear p2
    try clear c4
    try clear p6
    try clear c9
    try clear c10
    try clear c13
    try clear c13b0
    try clear c13b1
    try clear c15
    try clear c16
    try clear c19
    try clear dw
    try clear dx
    try clear dy
    try clear dz
    try clear dA
    try clear dB
    try clear dI
    try clear dJ
    try clear dC
    try clear dD
    try clear dE
    try clear dF
    try clear dG
    try clear dH
    try clear dK
    try clear dL
    try clear p2
    try clear p6
    obtain ⟨kq, bA, rfl, HA, ep, bd, bb, bf, HB⟩ := hcut
    cases kq with
    | zero => exact absurd HA.out (by simp [impl_Read.j1])
    | succ kj17 =>
     have H := HA.out; clear HA; simp only [impl_Read.j1] at H
     by_cases c20 : bA = 0
     ·rw [if_pos c20] at H
      have c20b0 : (bA == 0) = true := beq_iff_eq.mpr c20; have c20b1 : (bA != 0) = false := bne_eq_false_iff_eq.mpr c20; clear c20
      by_cases c21 : 0 ≤ a2
      ·rw [if_pos c21] at H
       have c21b0 : decide (0 ≤ a2) = true := decide_eq_true c21; clear c21
       by_cases c22 : a2 < (l0_0.length : Int)
       ·rw [if_pos c22] at H
        have c22b0 : decide (a2 < (l0_0.length : Int)) = true := decide_eq_true c22; clear c22; replace H := Option.bind_eq_some_iff.mp H; obtain ⟨⟨bY, bZ, b0, b1, b2, b3⟩, A230, H⟩ := H; replace H : ((impl_Filter.f l0_0 l0_1 bY bZ b0 b1 b2 b3).bind fun bk => (some (bk.1, bk.2.1, bk.2.2.1, bk.2.2.2.1, bk.2.2.2.2.1, bk.2.2.2.2.2, 0))) = some (r1, r2, r3, r4, r5, r6, r7) := H; have A23 := Aside0.mk A230; clear A230; replace H := Option.bind_eq_some_iff.mp H; obtain ⟨⟨dc, dd, de, df, dg, dh⟩, A240, H⟩ := H; replace H : (some (dc, dd, de, df, dg, dh, 0)) = some (r1, r2, r3, r4, r5, r6, r7) := H; have A24 := Aside0.mk A240; clear A240; simp only [Option.some.injEq, Prod.mk.injEq] at H; obtain ⟨rfl, rfl, rfl, rfl, rfl, rfl, rfl⟩ := H
        try go_wp2
        replace bd := Aside0.mk (blk_drew bd.out); replace bb := Aside0.mk (blk_drew bb.out); replace bf := Aside0.mk (blk_drew bf.out); replace HB := Aside0.mk (below_drew1 HB.out); have p199 : 0 ≤ (a2 : Int) := of_decide_eq_true (by first | (with_reducible assumption) | assumption); have q199 : a2 < (l0_0.length : Int) := of_decide_eq_true (by first | (with_reducible assumption) | assumption); obtain ⟨bl, e199, bI, bJ, bK, bL, bM, bN⟩ := at_T36 dt.out a2 p199 q199; have bm := bN; have bn := bM; have bo := bL; have bp := bK; have bq := bJ; have br := bI
        cases e199
        replace bI := (HB.out.cell (World.block_lt_of_cell? w _ bI)).trans bI; replace bJ := (HB.out.cell (World.block_lt_of_cell? w _ bJ)).trans bJ; replace bK := (HB.out.cell (World.block_lt_of_cell? w _ bK)).trans bK; replace bL := (HB.out.cell (World.block_lt_of_cell? w _ bL)).trans bL; replace bM := (HB.out.cell (World.block_lt_of_cell? w _ bM)).trans bM; replace bN := (HB.out.cell (World.block_lt_of_cell? w _ bN)).trans bN; replace p199 := eq_true p199; replace q199 := eq_true q199; refine start_ (n := 11) (S := fun w' => w'.cell? ⟨bW, 0, none⟩ = some (.slice (some bl) l0_0.length c0_0) ∧ w'.cell? ⟨bW, 1, none⟩ = some (.slice A0_1 l0_1.length c0_1) ∧ w'.cell? ⟨bz, 0, none⟩ = some (.int .i64 a1_0) ∧ w'.cell? ⟨bz, 1, none⟩ = some (.bool a1_1) ∧ w'.cell? ⟨bz, 2, none⟩ = some (.int .i64 a1_2) ∧ w'.cell? ⟨bz, 3, none⟩ = some (.int .i64 a1_3) ∧ w'.cell? ⟨bz, 4, none⟩ = some (.int .i64 a1_4) ∧ w'.cell? ⟨bz, 5, none⟩ = some (.int .i64 a1_5) ∧ w'.cell? (bl.add ((a2).toNat * 6)) = some (.int .i64 ((rd_T36 l0_0 a2).f0)) ∧ w'.cell? ⟨(bl.add ((a2).toNat * 6)).block, (bl.add ((a2).toNat * 6)).off + 1, none⟩ = some (.bool ((rd_T36 l0_0 a2).f1)) ∧ w'.cell? ⟨(bl.add ((a2).toNat * 6)).block, (bl.add ((a2).toNat * 6)).off + 2, none⟩ = some (.int .i64 ((rd_T36 l0_0 a2).f2.f0)) ∧ w'.cell? ⟨(bl.add ((a2).toNat * 6)).block, (bl.add ((a2).toNat * 6)).off + 3, none⟩ = some (.int .i64 ((rd_T36 l0_0 a2).f2.f1)) ∧ w'.cell? ⟨(bl.add ((a2).toNat * 6)).block, (bl.add ((a2).toNat * 6)).off + 4, none⟩ = some (.int .i64 ((rd_T36 l0_0 a2).f2.f2)) ∧ w'.cell? ⟨(bl.add ((a2).toNat * 6)).block, (bl.add ((a2).toNat * 6)).off + 5, none⟩ = some (.int .i64 ((rd_T36 l0_0 a2).f2.f3))) (ds := []) #[false, false, false, false, false, false, false, false, false, false, false] (by kernel_rfl) rfl rfl ⟨(blk_cell bd.out 0).trans rfl, (blk_cell bd.out 1).trans rfl, (blk_cell bb.out 0).trans rfl, (blk_cell bb.out 1).trans rfl, (blk_cell bb.out 2).trans rfl, (blk_cell bb.out 3).trans rfl, (blk_cell bb.out 4).trans rfl, (blk_cell bb.out 5).trans rfl, ((HB.out.cell (World.block_lt_of_cell? w _ br)).trans br), ((HB.out.cell (World.block_lt_of_cell? w _ bq)).trans bq), ((HB.out.cell (World.block_lt_of_cell? w _ bp)).trans bp), ((HB.out.cell (World.block_lt_of_cell? w _ bo)).trans bo), ((HB.out.cell (World.block_lt_of_cell? w _ bn)).trans bn), ((HB.out.cell (World.block_lt_of_cell? w _ bm)).trans bm)⟩ (fun hHeld => ?_); refine with_tabW impl_Read.tab6 impl_Read.bits6 (fun HT_ HW_ => ?_); generalize wc.drew = er at bd bb bf HB bI bJ bK bL bM bN hHeld ⊢; refine rP HT_.out 2 29 #[false, false, true, false, false, false, false, false, false, false, false] ?_; refine rP HT_.out 4 31 #[false, false, true, false, true, false, false, false, false, false, false] ?_; refine rT HT_.out HW_.out hHeld 0 27 #[true, false, true, false, true, false, false, false, false, false, false] ?_; refine rT HT_.out HW_.out hHeld 1 28 #[true, true, true, false, true, false, false, false, false, false, false] ?_; refine rT HT_.out HW_.out hHeld 3 30 #[true, true, true, true, true, false, false, false, false, false, false] ?_; refine rP HT_.out 5 32 #[true, true, true, true, true, true, false, false, false, false, false] ?_; refine rT HT_.out HW_.out hHeld 6 33 #[true, true, true, true, true, true, true, false, false, false, false] ?_; refine one_ (i := 7) (N := some 34) #[true, true, true, true, true, true, true, true, false, false, false] rfl rfl (one_of HT_.out (by kernel_rfl)) (by decide) (fun K hK => ?_); refine goesR Try.func43 (by kernel_rfl) rfl #[.agg #[.int .i64 a1_0, .bool a1_1, .int .i64 a1_2, .int .i64 a1_3, .int .i64 a1_4, .int .i64 a1_5], .agg #[.int .i64 ((rd_T36 l0_0 a2).f0), .bool ((rd_T36 l0_0 a2).f1), .int .i64 ((rd_T36 l0_0 a2).f2.f0), .int .i64 ((rd_T36 l0_0 a2).f2.f1), .int .i64 ((rd_T36 l0_0 a2).f2.f2), .int .i64 ((rd_T36 l0_0 a2).f2.f3)]] (by rfl) rfl rfl ?_; (with_reducible refine (impl_Taken.calls a1_0 a1_1 a1_2 a1_3 a1_4 a1_5 ((rd_T36 l0_0 a2).f0) ((rd_T36 l0_0 a2).f1) ((rd_T36 l0_0 a2).f2.f0) ((rd_T36 l0_0 a2).f2.f1) ((rd_T36 l0_0 a2).f2.f2) ((rd_T36 l0_0 a2).f2.f3) bY bZ b0 b1 b2 b3 _ A23.out).mono ?_); rintro e es ⟨rfl, hb⟩; refine ⟨_, rfl, ?_⟩; replace bd := nblk bd hb; replace bb := nblk bb hb; replace bf := nblk bf hb; replace HB := nbs HB hb; (try clear hb); refine hK.out _ _ ⟨(blk_cell bd.out 0).trans rfl, (blk_cell bd.out 1).trans rfl, (blk_cell bb.out 0).trans rfl, (blk_cell bb.out 1).trans rfl, (blk_cell bb.out 2).trans rfl, (blk_cell bb.out 3).trans rfl, (blk_cell bb.out 4).trans rfl, (blk_cell bb.out 5).trans rfl, ((HB.out.cell (World.block_lt_of_cell? w _ br)).trans br), ((HB.out.cell (World.block_lt_of_cell? w _ bq)).trans bq), ((HB.out.cell (World.block_lt_of_cell? w _ bp)).trans bp), ((HB.out.cell (World.block_lt_of_cell? w _ bo)).trans bo), ((HB.out.cell (World.block_lt_of_cell? w _ bn)).trans bn), ((HB.out.cell (World.block_lt_of_cell? w _ bm)).trans bm)⟩ (fun hHeld => ?_); clear hK K; refine norm_ (a' := ?_) ?_ ?_; rotate_left
        ·show Act.put _ (some 34) _ = _
         simp only [Act.put, List.setIfInBounds_toArray, List.set_cons_zero, List.set_cons_succ, i64_w, i32_w]; rfl
        refine one_ (i := 8) (N := some 35) #[true, true, true, true, true, true, true, true, true, false, false] rfl rfl (one_of HT_.out (by kernel_rfl)) (by decide) (fun K hK => ?_); refine goesR Try.func16 (by kernel_rfl) rfl #[.agg #[.slice (some bl) l0_0.length c0_0, .slice A0_1 l0_1.length c0_1], .agg #[.int .i64 bY, .bool bZ, .int .i64 b0, .int .i64 b1, .int .i64 b2, .int .i64 b3]] (by rfl) rfl rfl ?_; (with_reducible refine (impl_Filter.calls _ _ l0_0 _ _ l0_1 bY bZ b0 b1 b2 b3 dc dd de df dg dh _ ?side1 ?side2 ?side3 ?side4 A24.out).mono ?_); (case side1 => exact nCb dt HB); (case side2 => exact dZ.out); (case side3 => exact nCb d0 HB); (case side4 => exact d1.out); rintro e bF ⟨rfl, hb⟩; refine ⟨_, rfl, ?_⟩; replace bd := nblk bd hb; replace bb := nblk bb hb; replace bf := nblk bf hb; replace HB := nbs HB hb; (try clear hb); refine hK.out _ _ ⟨(blk_cell bd.out 0).trans rfl, (blk_cell bd.out 1).trans rfl, (blk_cell bb.out 0).trans rfl, (blk_cell bb.out 1).trans rfl, (blk_cell bb.out 2).trans rfl, (blk_cell bb.out 3).trans rfl, (blk_cell bb.out 4).trans rfl, (blk_cell bb.out 5).trans rfl, ((HB.out.cell (World.block_lt_of_cell? w _ br)).trans br), ((HB.out.cell (World.block_lt_of_cell? w _ bq)).trans bq), ((HB.out.cell (World.block_lt_of_cell? w _ bp)).trans bp), ((HB.out.cell (World.block_lt_of_cell? w _ bo)).trans bo), ((HB.out.cell (World.block_lt_of_cell? w _ bn)).trans bn), ((HB.out.cell (World.block_lt_of_cell? w _ bm)).trans bm)⟩ (fun hHeld => ?_); clear hK K; refine norm_ (a' := ?_) ?_ ?_; rotate_left
        ·show Act.put _ (some 35) _ = _
         simp only [Act.put, List.setIfInBounds_toArray, List.set_cons_zero, List.set_cons_succ, i64_w, i32_w]; rfl
        refine one_ (i := 9) (N := none) #[true, true, true, true, true, true, true, true, true, true, false] rfl rfl (one_of HT_.out (by kernel_rfl)) (by decide) (fun K hK => ?_); have hs28 : bF.cell? ⟨ba, 0, none⟩ = some (.int .i64 0) := (blk_cell bf.out 0).trans rfl; have hfs28 := blk_frozen bf.out 0; have hns28_0 := bH.out; have hns28_1 := bx.out; have hms28_0 := b9.out; have hms28_1 := da.out; have hs29 : bF.cell? ⟨ba, 1, none⟩ = some (.bool false) := (blk_cell bf.out 1).trans rfl; have hfs29 := blk_frozen bf.out 1; have hs30 : bF.cell? ⟨ba, 2, none⟩ = some (.int .i64 0) := (blk_cell bf.out 2).trans rfl; have hfs30 := blk_frozen bf.out 2; have hs31 : bF.cell? ⟨ba, 3, none⟩ = some (.int .i64 0) := (blk_cell bf.out 3).trans rfl; have hfs31 := blk_frozen bf.out 3; have hs32 : bF.cell? ⟨ba, 4, none⟩ = some (.int .i64 0) := (blk_cell bf.out 4).trans rfl; have hfs32 := blk_frozen bf.out 4; have hs33 : bF.cell? ⟨ba, 5, none⟩ = some (.int .i64 0) := (blk_cell bf.out 5).trans rfl; have hfs33 := blk_frozen bf.out 5; refine skip_ (w1 := ?_) (by rfl) rfl ?_ ?_; rotate_left
        ·go_simp
         rfl
        refine hK.out _ _ ⟨(g6 bH.out hHeld.1), (g6 bH.out hHeld.2.1), (g6 bx.out hHeld.2.2.1), (g6 bx.out hHeld.2.2.2.1), (g6 bx.out hHeld.2.2.2.2.1), (g6 bx.out hHeld.2.2.2.2.2.1), (g6 bx.out hHeld.2.2.2.2.2.2.1), (g6 bx.out hHeld.2.2.2.2.2.2.2.1), ((cell_far (p := ⟨ba, _, none⟩) (bne_ br bc.out) _).trans (((cell_far (p := ⟨ba, _, none⟩) (bne_ br bc.out) _).trans (((cell_far (p := ⟨ba, _, none⟩) (bne_ br bc.out) _).trans (((cell_far (p := ⟨ba, _, none⟩) (bne_ br bc.out) _).trans (((cell_far (p := ⟨ba, _, none⟩) (bne_ br bc.out) _).trans (((cell_far (p := ⟨ba, _, none⟩) (bne_ br bc.out) _).trans (hHeld.2.2.2.2.2.2.2.2.1)))))))))))), ((cell_far (p := ⟨ba, _, none⟩) (bne_ bq bc.out) _).trans (((cell_far (p := ⟨ba, _, none⟩) (bne_ bq bc.out) _).trans (((cell_far (p := ⟨ba, _, none⟩) (bne_ bq bc.out) _).trans (((cell_far (p := ⟨ba, _, none⟩) (bne_ bq bc.out) _).trans (((cell_far (p := ⟨ba, _, none⟩) (bne_ bq bc.out) _).trans (((cell_far (p := ⟨ba, _, none⟩) (bne_ bq bc.out) _).trans (hHeld.2.2.2.2.2.2.2.2.2.1)))))))))))), ((cell_far (p := ⟨ba, _, none⟩) (bne_ bp bc.out) _).trans (((cell_far (p := ⟨ba, _, none⟩) (bne_ bp bc.out) _).trans (((cell_far (p := ⟨ba, _, none⟩) (bne_ bp bc.out) _).trans (((cell_far (p := ⟨ba, _, none⟩) (bne_ bp bc.out) _).trans (((cell_far (p := ⟨ba, _, none⟩) (bne_ bp bc.out) _).trans (((cell_far (p := ⟨ba, _, none⟩) (bne_ bp bc.out) _).trans (hHeld.2.2.2.2.2.2.2.2.2.2.1)))))))))))), ((cell_far (p := ⟨ba, _, none⟩) (bne_ bo bc.out) _).trans (((cell_far (p := ⟨ba, _, none⟩) (bne_ bo bc.out) _).trans (((cell_far (p := ⟨ba, _, none⟩) (bne_ bo bc.out) _).trans (((cell_far (p := ⟨ba, _, none⟩) (bne_ bo bc.out) _).trans (((cell_far (p := ⟨ba, _, none⟩) (bne_ bo bc.out) _).trans (((cell_far (p := ⟨ba, _, none⟩) (bne_ bo bc.out) _).trans (hHeld.2.2.2.2.2.2.2.2.2.2.2.1)))))))))))), ((cell_far (p := ⟨ba, _, none⟩) (bne_ bn bc.out) _).trans (((cell_far (p := ⟨ba, _, none⟩) (bne_ bn bc.out) _).trans (((cell_far (p := ⟨ba, _, none⟩) (bne_ bn bc.out) _).trans (((cell_far (p := ⟨ba, _, none⟩) (bne_ bn bc.out) _).trans (((cell_far (p := ⟨ba, _, none⟩) (bne_ bn bc.out) _).trans (((cell_far (p := ⟨ba, _, none⟩) (bne_ bn bc.out) _).trans (hHeld.2.2.2.2.2.2.2.2.2.2.2.2.1)))))))))))), ((cell_far (p := ⟨ba, _, none⟩) (bne_ bm bc.out) _).trans (((cell_far (p := ⟨ba, _, none⟩) (bne_ bm bc.out) _).trans (((cell_far (p := ⟨ba, _, none⟩) (bne_ bm bc.out) _).trans (((cell_far (p := ⟨ba, _, none⟩) (bne_ bm bc.out) _).trans (((cell_far (p := ⟨ba, _, none⟩) (bne_ bm bc.out) _).trans (((cell_far (p := ⟨ba, _, none⟩) (bne_ bm bc.out) _).trans (hHeld.2.2.2.2.2.2.2.2.2.2.2.2.2))))))))))))⟩ (fun hHeld => ?_); clear hK K; refine rP HT_.out 10 7 #[true, true, true, true, true, true, true, true, true, true, true] ?_; refine done_ (done_of HT_.out (by kernel_rfl)) ?_
        try go_wp2
        refine bodyPost_ret (results_ct rfl _ _ ba 36 #[.int .i64 dc, .bool dd, .int .i64 de, .int .i64 df, .int .i64 dg, .int .i64 dh] (0, 0) _ rfl (q6 bf) Try.underlying36 rfl (by kernel_rfl)) rfl ?_; exact ⟨er_, nbe HB⟩
       ·rw [if_neg c22] at H
        exact absurd H (by simp)
      ·rw [if_neg c21] at H
       exact absurd H (by simp)
     ·rw [if_neg c20] at H
      have c20b0 : (bA == 0) = false := beq_eq_false_iff_ne.mpr c20; have c20b1 : (bA != 0) = true := bne_iff_ne.mpr c20; simp only [Option.some.injEq, Prod.mk.injEq] at H; obtain ⟨rfl, rfl, rfl, rfl, rfl, rfl, rfl⟩ := H; have et := b9.out; have eu := bH.out; have ev := da.out; have ew := bx.out; obtain ⟨ex, ey, ez, eA, eB, eC⟩ := c6e bf; obtain ⟨eD, eE, eF, eG, eH, eI⟩ := z6_ bf; go_wp2; refine bodyPost_ret (results_ct rfl _ _ ba 36 #[.int .i64 0, .bool false, .int .i64 0, .int .i64 0, .int .i64 0, .int .i64 0] (0, 0) _ rfl (q6 bf) Try.underlying36 rfl (by kernel_rfl)) rfl ?_; exact ⟨er_, nbe HB⟩

/-- A state of type 69 at block g of W; what its slices lead to came in by w0. -/
def IsS69 (w0 W : World) (g : Nat) (f0 : List Int) (f1 : Int) (f2 : Int) : Prop := ∃ A0 c0, W.heap[g]? = some (.cells #[.slice A0 f0.length c0, .int .i64 f1, .int .i64 f2] 69 (0, 0)) ∧ w0.heap.size ≤ g ∧ Kd.C (Kd.int .u8) w0 A0 f0.length f0
theorem IsS69.grown {w0 W : World} {g : Nat} {f0 : List Int} {f1 : Int} {f2 : Int} {W1 : World} {row : Option Nat} (h : IsS69 w0 W g f0 f1 f2) (hw : W.grownBy W1 row) (hne : some g ≠ row) : IsS69 w0 W1 g f0 f1 f2 := by
 obtain ⟨A0, c0, hb, hg, hr0⟩ := h; exact ⟨A0, c0, blk_grown hb hw hne, hg, hr0⟩
theorem IsS69.own_neN {w0 W : World} {g : Nat} {f0 : List Int} {f1 : Int} {f2 : Int} {α : Type} {d : Kd α} {e : Nat} {base : Nat} {ok : Nat → Prop} {v : Value} {xs : List α} (h : IsS69 w0 W g f0 f1 f2) (ho : Kd.N d e W base ok v xs) (ht : e ≠ 69) : some g ≠ v.ownBlock := by
 obtain ⟨A0, c0, hb, hg, hr0⟩ := h; exact Kd.N_ne ho hb ht
theorem IsS69.fresh {w0 W : World} {g : Nat} {f0 : List Int} {f1 : Int} {f2 : Int} (h : IsS69 w0 W g f0 f1 f2) : ∀ k, W.heap.size ≤ k → k ≠ g := by
 obtain ⟨A0, c0, hb, hg, hr0⟩ := h; exact Kd.freshB hb
theorem IsS69.kept {w0 W : World} {g : Nat} {f0 : List Int} {f1 : Int} {f2 : Int} {W1 : World} {S : Nat → Prop} (h : IsS69 w0 W g f0 f1 f2) (hk : Kept W W1 S) (hne : ¬ S g) : IsS69 w0 W1 g f0 f1 f2 := by
 obtain ⟨A0, c0, hb, hg, hr0⟩ := h; exact ⟨A0, c0, blk_kept hb hk hne, hg, hr0⟩
theorem IsS69.below {w0 W : World} {g : Nat} {f0 : List Int} {f1 : Int} {f2 : Int} {W1 : World} (h : IsS69 w0 W g f0 f1 f2) (hw : Below W.heap.size W W1) : IsS69 w0 W1 g f0 f1 f2 := h.grown (grown_of_below hw none) (by simp)
theorem IsS69.alloc {w0 W : World} {g : Nat} {f0 : List Int} {f1 : Int} {f2 : Int} (h : IsS69 w0 W g f0 f1 f2) (o : Obj) : IsS69 w0 (W.alloc o) g f0 f1 f2 := h.below (below_alloc (Below.refl _ _) o)
theorem IsS69.drewN {w0 W : World} {g : Nat} {f0 : List Int} {f1 : Int} {f2 : Int} (h : IsS69 w0 W g f0 f1 f2) (m : Nat) : IsS69 w0 (W.drewN m) g f0 f1 f2 := h
theorem IsS69.drew {w0 W : World} {g : Nat} {f0 : List Int} {f1 : Int} {f2 : Int} (h : IsS69 w0 W g f0 f1 f2) : IsS69 w0 W.drew g f0 f1 f2 := h
theorem IsS69.at_ {w0 W : World} {g : Nat} {f0 : List Int} {f1 : Int} {f2 : Int} {w' : World} {m : Nat} (hq : W.drewN m = w') (h : IsS69 w0 W g f0 f1 f2) : IsS69 w0 w' g f0 f1 f2 := by subst hq; exact IsS69.drewN h m
theorem IsS69.apart {w0 W : World} {g : Nat} {f0 : List Int} {f1 : Int} {f2 : Int} {α : Type} {d : Kd α} {e : Nat} {base : Nat} {ok : Nat → Prop} {v : Value} {xs : List α} (h : IsS69 w0 W g f0 f1 f2) (ho : d.R e W base ok v xs) (ht : ∀ q, q ∈ e :: d.E → q ≠ 69) : d.R e W base (fun k => ok k ∧ k ≠ g) v xs := by
 obtain ⟨A0, c0, hb, hg, hr0⟩ := h; exact Kd.R_types ho hb ht
theorem IsS69.own_ne {w0 W : World} {g : Nat} {f0 : List Int} {f1 : Int} {f2 : Int} {α : Type} {d : Kd α} {e : Nat} {base : Nat} {ok : Nat → Prop} {v : Value} {xs : List α} (h : IsS69 w0 W g f0 f1 f2) (ho : d.R e W base ok v xs) (ht : e ≠ 69) : some g ≠ v.ownBlock := by
 obtain ⟨A0, c0, hb, hg, hr0⟩ := h; exact Kd.R_ne ho hb ht
theorem IsS69.apartQ {w0 W : World} {g : Nat} {f0 : List Int} {f1 : Int} {f2 : Int} {α : Type} {d : Kd α} {e : Nat} {base : Nat} {ok : Nat → Prop} {v : Value} {xs : List α} (h : IsS69 w0 W g f0 f1 f2) (ho : d.Q e W base ok v xs) (ht : ∀ q, q ∈ e :: d.E → q ≠ 69) : d.Q e W base (fun k => ok k ∧ k ≠ g) v xs := by
 obtain ⟨A0, c0, hb, hg, hr0⟩ := h; exact Kd.Q_types ho hb ht
theorem IsS69.own_neQ {w0 W : World} {g : Nat} {f0 : List Int} {f1 : Int} {f2 : Int} {α : Type} {d : Kd α} {e : Nat} {base : Nat} {ok : Nat → Prop} {v : Value} {xs : List α} (h : IsS69 w0 W g f0 f1 f2) (ho : d.Q e W base ok v xs) (ht : e ≠ 69) : some g ≠ v.ownBlock := by
 obtain ⟨A0, c0, hb, hg, hr0⟩ := h; exact Kd.Q_ne ho hb ht
theorem IsS69.apartS {w0 W : World} {g : Nat} {f0 : List Int} {f1 : Int} {f2 : Int} {α : Type} {d : Kd α} {e : Nat} {base : Nat} {ok : Nat → Prop} {v : Value} {xs : List α} (h : IsS69 w0 W g f0 f1 f2) (ho : d.S e W base ok v xs) (ht : ∀ q, q ∈ e :: d.E → q ≠ 69) : d.S e W base (fun k => ok k ∧ k ≠ g) v xs := by
 obtain ⟨A0, c0, hb, hg, hr0⟩ := h; exact Kd.S_types ho hb ht
theorem IsS69.own_neS {w0 W : World} {g : Nat} {f0 : List Int} {f1 : Int} {f2 : Int} {α : Type} {d : Kd α} {e : Nat} {base : Nat} {ok : Nat → Prop} {v : Value} {xs : List α} (h : IsS69 w0 W g f0 f1 f2) (ho : d.S e W base ok v xs) (ht : e ≠ 69) : some g ≠ v.ownBlock := by
 obtain ⟨A0, c0, hb, hg, hr0⟩ := h; exact Kd.S_ne ho hb ht
theorem IsS69.lt {w0 W : World} {g : Nat} {f0 : List Int} {f1 : Int} {f2 : Int} (h : IsS69 w0 W g f0 f1 f2) : g < W.heap.size := by
 obtain ⟨A0, c0, hb, hg, hr0⟩ := h; exact blk_lt hb
theorem IsS69.ge {w0 W : World} {g : Nat} {f0 : List Int} {f1 : Int} {f2 : Int} (h : IsS69 w0 W g f0 f1 f2) : w0.heap.size ≤ g := by
 obtain ⟨A0, c0, hb, hg, hr0⟩ := h; exact hg
theorem IsS69.ne_blk {w0 W : World} {g : Nat} {f0 : List Int} {f1 : Int} {f2 : Int} {a : Nat} {cs : Array Value} {t : TypeId} {fr : Nat × Nat} (h : IsS69 w0 W g f0 f1 f2) (hb2 : W.heap[a]? = some (.cells cs t fr)) (ht : t ≠ 69) : g ≠ a := by
 obtain ⟨A0, c0, hb, hg, hr0⟩ := h; rintro rfl; rw [hb] at hb2
 injection hb2 with hb2
 injection hb2 with _ ht2
 exact ht ht2.symm
theorem IsS69.far {w0 W : World} {g : Nat} {f0 : List Int} {f1 : Int} {f2 : Int} {p : Addr} (h : IsS69 w0 W g f0 f1 f2) (hne : g ≠ p.block) (u : Value) : IsS69 w0 (W.setCell p u) g f0 f1 f2 := by
 obtain ⟨A0, c0, hb, hg, hr0⟩ := h; exact ⟨A0, c0, blk_far hb hne u, hg, hr0⟩
theorem cellS69_0 {W : World} {g : Nat} {A0 : Option Addr} {c0 : Nat} {f0 : List Int} {f1 : Int} {f2 : Int} (h : W.heap[g]? = some (.cells #[.slice A0 f0.length c0, .int .i64 f1, .int .i64 f2] 69 (0, 0))) : W.cell? ⟨g, 0, none⟩ = some (.slice A0 f0.length c0) := (blk_cell h 0).trans rfl
theorem cellS69_1 {W : World} {g : Nat} {A0 : Option Addr} {c0 : Nat} {f0 : List Int} {f1 : Int} {f2 : Int} (h : W.heap[g]? = some (.cells #[.slice A0 f0.length c0, .int .i64 f1, .int .i64 f2] 69 (0, 0))) : W.cell? ⟨g, 1, none⟩ = some (.int .i64 f1) := (blk_cell h 1).trans rfl
theorem IsS69.set_1 {w0 W : World} {g : Nat} {f0 : List Int} {f1 : Int} {f2 : Int} (h : IsS69 w0 W g f0 f1 f2) (x : Int) : IsS69 w0 (W.setCell ⟨g, 1, none⟩ (.int .i64 x)) g f0 x f2 := by
 obtain ⟨A0, c0, hb, hg, hr0⟩ := h; exact ⟨A0, c0, by simpa using blk_set hb 1 (.int .i64 x), hg, hr0⟩
theorem cellS69_2 {W : World} {g : Nat} {A0 : Option Addr} {c0 : Nat} {f0 : List Int} {f1 : Int} {f2 : Int} (h : W.heap[g]? = some (.cells #[.slice A0 f0.length c0, .int .i64 f1, .int .i64 f2] 69 (0, 0))) : W.cell? ⟨g, 2, none⟩ = some (.int .i64 f2) := (blk_cell h 2).trans rfl
theorem IsS69.set_2 {w0 W : World} {g : Nat} {f0 : List Int} {f1 : Int} {f2 : Int} (h : IsS69 w0 W g f0 f1 f2) (x : Int) : IsS69 w0 (W.setCell ⟨g, 2, none⟩ (.int .i64 x)) g f0 f1 x := by
 obtain ⟨A0, c0, hb, hg, hr0⟩ := h; exact ⟨A0, c0, by simpa using blk_set hb 2 (.int .i64 x), hg, hr0⟩
theorem IsS69.new (w0 W : World) (A0 : Option Addr) (c0 : Nat) (f0 : List Int) (f1 : Int) (f2 : Int) (hB : Below w0.heap.size w0 W) (hr0 : Kd.C (Kd.int .u8) w0 A0 f0.length f0) : IsS69 w0 (W.alloc (.cells #[.slice A0 f0.length c0, .int .i64 f1, .int .i64 f2] 69)) W.heap.size f0 f1 f2 := ⟨A0, c0, by simpa using heap_alloc_new W _, hB.size, hr0⟩

theorem IsS69.n {w0 W : World} {g : Nat} {f0 : List Int} {f1 : Int} {f2 : Int} (h : IsS69 w0 W g f0 f1 f2 := by repeat (first | (with_reducible first | exact Aside0.out (by assumption) | apply IsS69.alloc | apply IsS69.drewN | apply IsS69.drew | apply IsS69.set_1 | apply IsS69.set_2 | refine IsS69.far ?_ (Aside0.out (by assumption)) _) | exact Aside0.out (by assumption))) : IsS69 w0 W g f0 f1 f2 := h
theorem IsS69.nb {w W : World} (h : Below w.heap.size w W := by repeat (first | (with_reducible first | exact Aside0.out (by assumption) | apply below_alloc | apply pw_below_drewN | apply below_drew1 | refine below_set ?_ (Aside0.out (by assumption)) | refine below_set ?_ (IsS69.ge (Aside0.out (by assumption)))) | exact Aside0.out (by assumption))) : Below w.heap.size w W := h
/-! ### spec_l1New: function 30 -/
def spec_l1New.l0 : Nat → List Int → Int → Int → Option (List Int × Int × Int)
 | 0, _, _, _ => none
 | k + 1, x0, x3, x4 => if x4 < (x0.length : Int) then (if x4 < 4000 then (if 0 ≤ x4 then (spec_l1New.l0 k x0 (Go.bits .and .i64 (wrap64 ((wrap64 ((wrap64 (x3 * 131)) + (wrap64 (rd x0 x4)))) + 7)) 1073741823) (wrap64 (x4 + 1))) else (none)) else (some (x0, 0, x3))) else (some (x0, 0, x3))
def spec_l1New.f (k : Nat) (l0 : List Int) : Option (List Int × Int × Int) := spec_l1New.l0 k l0 (wrap64 (19220 + (l0.length : Int))) 0
theorem spec_l1New.mono_l : ∀ k, (∀ y0 y1 y2, LeO (spec_l1New.l0 k y0 y1 y2) (spec_l1New.l0 (k + 1) y0 y1 y2))
 | 0 => fun _ _ _ r h => by simp [spec_l1New.l0] at h
 | k + 1 => by
  have ih0 := spec_l1New.mono_l k
  ·intro y0 y1 y2
   unfold spec_l1New.l0
   repeat' first
   | (with_reducible exact ih0 _ _ _)
   | (with_reducible exact LeO.refl _)
   | (with_reducible exact LeO.none _)
   | (with_reducible refine LeO.ite ?_ ?_)
   | (with_reducible refine LeO.bind ?_ (fun _ => ?_))
   | exact ih0 _ _ _
   | exact LeO.none _
   | refine LeO.ite ?_ ?_
   | refine LeO.bind ?_ (fun _ => ?_)
theorem spec_l1New.mono : ∀ a0 k, LeO (spec_l1New.f k a0) (spec_l1New.f (k + 1) a0) := by
 intro a0 k; have ih0 := spec_l1New.mono_l k
 unfold spec_l1New.f
 repeat' first
   | (with_reducible exact ih0 _ _ _)
   | (with_reducible exact LeO.refl _)
   | (with_reducible exact LeO.none _)
   | (with_reducible refine LeO.ite ?_ ?_)
   | (with_reducible refine LeO.bind ?_ (fun _ => ?_))
   | exact ih0 _ _ _
   | exact LeO.none _
   | refine LeO.ite ?_ ?_
   | refine LeO.bind ?_ (fun _ => ?_)
set_option maxHeartbeats 8000000 in
set_option maxRecDepth 100000 in
theorem spec_l1New.calls (k : Nat) (A0 : Option Addr) (c0 : Nat) (l0 : List Int) (r1 : List Int) (r2 : Int) (r3 : Int) (w0 w : World) (hB : Below w0.heap.size w0 w) (hr0 : Kd.C (Kd.int .u8) w0 A0 l0.length l0) (hc0 : l0.length ≤ c0) (h : spec_l1New.f k l0 = some (r1, r2, r3)) :
  Calls Try.prog 30 #[.slice A0 l0.length c0] w fun e w' => ∃ g_ : Nat, e = .returned (.pointer (some ⟨g_, 0, none⟩)) ∧ IsS69 w0 w' g_ r1 r2 r3 ∧ Below w0.heap.size w0 w' ∧ Below w.heap.size w w' := by
 have hu69 := Try.underlying69; have di := Aside0.mk hr0; have eJ := Aside0.mk hc0; clear hr0 hc0; have HBW := Aside0.mk (Below.refl w.heap.size w); have HW0 := Aside0.mk hB.size; have HB := Aside0.mk hB; clear hB; have H : (spec_l1New.l0 k l0 (wrap64 (19220 + (l0.length : Int))) 0) = some (r1, r2, r3) := h; clear h; have H' := Aside0.mk H; clear H
 go_enter Try.func30, Try.ntmps30
 go_wp2
 go_loopg [3, 4] k (fun kq v3 v4 w' => ∃ (bB : Int) (bi : Int), v3 = .int .i64 bB ∧ v4 = .int .i64 bi ∧ Aside0 (spec_l1New.l0 kq l0 bB bi = some (r1, r2, r3)) ∧ Aside0 (kq ≤ k) ∧ Aside0 (Below w.heap.size w w') ∧ Aside0 (Below w0.heap.size w0 w'))
 case atStart => exact ⟨(wrap64 (19220 + (l0.length : Int))), (0), (by first | rfl | (simp; done) | (simp [*]; done)), (by first | rfl | (simp; done) | (simp [*]; done)), H', ⟨Nat.le_refl _⟩, ⟨nbe HBW⟩, ⟨nbe HB⟩⟩
 case round =>
  clear H'; obtain ⟨bB, bi, rfl, rfl, HA, dN, HBW, HB⟩ := hrel
  cases gk with
  | zero => exact absurd HA.out (by simp [spec_l1New.l0])
  | succ k1 =>
   have H := HA.out; clear HA; simp only [spec_l1New.l0] at H
   by_cases c2 : bi < (l0.length : Int)
   ·rw [if_pos c2] at H
    have c2b0 : decide (bi < (l0.length : Int)) = true := decide_eq_true c2; clear c2
    by_cases c3 : bi < 4000
    ·rw [if_pos c3] at H
     have c3b0 : decide (bi < 4000) = true := decide_eq_true c3; clear c3
     by_cases c4 : 0 ≤ bi
     ·rw [if_pos c4] at H
      have c4b0 : decide (0 ≤ bi) = true := decide_eq_true c4; clear c4; have H' := Aside0.mk H; clear H; have p212 : 0 ≤ (bi : Int) := of_decide_eq_true (by first | (with_reducible assumption) | assumption); have q212 : bi < (l0.length : Int) := of_decide_eq_true (by first | (with_reducible assumption) | assumption); obtain ⟨eK, e212, dO⟩ := Kd.at_int di.out bi p212 q212
      cases e212
      replace dO := pw_cell_below HB.out dO; replace p212 := eq_true p212; replace q212 := eq_true q212; go_wp2
      go_roundg k1
      case measure => have := dN.out; omega
      case rel => exact ⟨(Go.bits .and .i64 (wrap64 ((wrap64 ((wrap64 (bB * 131)) + (wrap64 (rd l0 bi)))) + 7)) 1073741823), (wrap64 (bi + 1)), (by first | rfl | (simp; done) | (simp [*]; done)), (by first | rfl | (simp; done) | (simp [*]; done)), H', ⟨by have := dN.out; omega⟩, ⟨nbe HBW⟩, ⟨nbe HB⟩⟩
     ·rw [if_neg c4] at H
      exact absurd H (by simp)
    ·rw [if_neg c3] at H
     have c3b0 : decide (bi < 4000) = false := decide_eq_false c3; clear c3; simp only [Option.some.injEq, Prod.mk.injEq] at H; obtain ⟨rfl, rfl, rfl⟩ := H
     go_wp2_with (first | ((with_reducible refine gate_dst (N := 31) rfl ?_); refine bxe 31 #[.slice A0 l0.length c0, .int .i64 0, .int .i64 bB] 69 ?_; intro b4 hg w5 hbox hb; have d3 := hbox; have eL := Aside0.mk ((by rw [hg]; exact (below_size (nbe HBW)) : w.heap.size ≤ b4)); have d4 := Aside0.mk ((Nat.le_trans HW0.out (by rw [hg]; exact (below_size (nbe HBW)) : w.heap.size ≤ b4) : w0.heap.size ≤ b4)); replace HBW := Aside0.mk (below_step HBW.out hb); replace HB := nbs HB hb; clear hb hbox hg))
     go_ret
     exact ⟨_, rfl, (show IsS69 w0 _ b4 l0 0 bB from ⟨_, _, nb d3, d4.out, di.out⟩), nbe HB, nbe HBW⟩
   ·rw [if_neg c2] at H
    have c2b0 : decide (bi < (l0.length : Int)) = false := decide_eq_false c2; clear c2; simp only [Option.some.injEq, Prod.mk.injEq] at H; obtain ⟨rfl, rfl, rfl⟩ := H
    go_wp2_with (first | ((with_reducible refine gate_dst (N := 31) rfl ?_); refine bxe 31 #[.slice A0 l0.length c0, .int .i64 0, .int .i64 bB] 69 ?_; intro b5 hg w6 hbox hb; have d5 := hbox; have eM := Aside0.mk ((by rw [hg]; exact (below_size (nbe HBW)) : w.heap.size ≤ b5)); have d6 := Aside0.mk ((Nat.le_trans HW0.out (by rw [hg]; exact (below_size (nbe HBW)) : w.heap.size ≤ b5) : w0.heap.size ≤ b5)); replace HBW := Aside0.mk (below_step HBW.out hb); replace HB := nbs HB hb; clear hb hbox hg))
    go_ret
    exact ⟨_, rfl, (show IsS69 w0 _ b5 l0 0 bB from ⟨_, _, nb d5, d6.out, di.out⟩), nbe HB, nbe HBW⟩

/-! ### spec_l1Byte: function 53 -/
def spec_l1Byte.f (s0_0 : List Int) (s0_1 : Int) (s0_2 : Int) : Option (Int × Int × Int) := if s0_1 < (s0_0.length : Int) then (if 0 ≤ s0_1 then (some (Go.bits .and .i64 (wrap64 ((Go.bits .and .i64 (Go.bits .xor .i64 ((wrap64 ((wrap64 (s0_2 * 6364136223846793005)) + 1442695040888963407)) / 8589934592) ((wrap64 ((wrap64 (s0_2 * 6364136223846793005)) + 1442695040888963407)) / 35184372088832)) 255) + (wrap64 (rd s0_0 s0_1)))) 255, wrap64 (s0_1 + 1), wrap64 ((wrap64 (s0_2 * 6364136223846793005)) + 1442695040888963407))) else (none)) else (some (Go.bits .and .i64 (Go.bits .xor .i64 ((wrap64 ((wrap64 (s0_2 * 6364136223846793005)) + 1442695040888963407)) / 8589934592) ((wrap64 ((wrap64 (s0_2 * 6364136223846793005)) + 1442695040888963407)) / 35184372088832)) 255, s0_1, wrap64 ((wrap64 (s0_2 * 6364136223846793005)) + 1442695040888963407)))
set_option maxHeartbeats 8000000 in
set_option maxRecDepth 100000 in
theorem spec_l1Byte.calls (g : Nat) (s0_0 : List Int) (s0_1 : Int) (s0_2 : Int) (r1 : Int) (r2 : Int) (r3 : Int) (w0 w : World) (hI : IsS69 w0 w g s0_0 s0_1 s0_2) (hB : Below w0.heap.size w0 w) (h : spec_l1Byte.f s0_0 s0_1 s0_2 = some (r1, r2, r3)) :
  Calls Try.prog 53 #[.pointer (some ⟨g, 0, none⟩)] w fun e w' => e = .returned (.int .i64 r1) ∧ IsS69 w0 w' g s0_0 r2 r3 ∧ Below w0.heap.size w0 w' ∧ KeepBut w w' g none := by
 have HI0 := Aside0.mk hI; have HK := Aside0.mk (KeepBut.refl w g none); have HL := Aside0.mk hB.size; clear hI; have HW0 := Aside0.mk hB.size; have HB := Aside0.mk hB; clear hB; have H : (if s0_1 < (s0_0.length : Int) then (if 0 ≤ s0_1 then (some (Go.bits .and .i64 (wrap64 ((Go.bits .and .i64 (Go.bits .xor .i64 ((wrap64 ((wrap64 (s0_2 * 6364136223846793005)) + 1442695040888963407)) / 8589934592) ((wrap64 ((wrap64 (s0_2 * 6364136223846793005)) + 1442695040888963407)) / 35184372088832)) 255) + (wrap64 (rd s0_0 s0_1)))) 255, wrap64 (s0_1 + 1), wrap64 ((wrap64 (s0_2 * 6364136223846793005)) + 1442695040888963407))) else (none)) else (some (Go.bits .and .i64 (Go.bits .xor .i64 ((wrap64 ((wrap64 (s0_2 * 6364136223846793005)) + 1442695040888963407)) / 8589934592) ((wrap64 ((wrap64 (s0_2 * 6364136223846793005)) + 1442695040888963407)) / 35184372088832)) 255, s0_1, wrap64 ((wrap64 (s0_2 * 6364136223846793005)) + 1442695040888963407)))) = some (r1, r2, r3) := h; clear h
 by_cases c2 : s0_1 < (s0_0.length : Int)
 ·rw [if_pos c2] at H
  have c2b0 : decide (s0_1 < (s0_0.length : Int)) = true := decide_eq_true c2; clear c2
  by_cases c3 : 0 ≤ s0_1
  ·rw [if_pos c3] at H
   have c3b0 : decide (0 ≤ s0_1) = true := decide_eq_true c3; clear c3; simp only [Option.some.injEq, Prod.mk.injEq] at H; obtain ⟨rfl, rfl, rfl⟩ := H; obtain ⟨ASz4_0, cSz4_0, HGz4, hgz4, HSz4_0⟩ := HI0.out; have eN := cellS69_0 HGz4; have eO := cellS69_1 HGz4; have eP := cellS69_2 HGz4; have eQ := blk_frozen HGz4 1; have eR := blk_frozen HGz4 2; clear HGz4 hgz4; have p215 : 0 ≤ (s0_1 : Int) := of_decide_eq_true (by first | (with_reducible assumption) | assumption); have q215 : s0_1 < (s0_0.length : Int) := of_decide_eq_true (by first | (with_reducible assumption) | assumption); obtain ⟨d7, e215, bG⟩ := Kd.at_int HSz4_0 s0_1 p215 q215
   cases e215
   have hn215_0 : d7.block ≠ g := Nat.ne_of_lt (Nat.lt_of_lt_of_le (by have := World.block_lt_of_cell? _ _ bG; first | rwa [add_block] at this | exact this) (IsS69.ge HI0.out)); replace bG := pw_cell_below HB.out bG; replace bG := (cell_far (p := ⟨g, 2, none⟩) (by first | (rw [add_block]; exact hn215_0) | (show (Addr.add _ _).block ≠ _; rw [add_block]; exact hn215_0) | exact hn215_0) (.int .i64 (wrap64 ((wrap64 (s0_2 * 6364136223846793005)) + 1442695040888963407)))).trans bG; (try have eS := fun (n_ : Nat) => (show (((w.drewN n_).setCell ⟨g, 2, none⟩ (.int .i64 (wrap64 ((wrap64 (s0_2 * 6364136223846793005)) + 1442695040888963407))))).cell? _ = some _ from bG)); clear hn215_0; replace p215 := eq_true p215; replace q215 := eq_true q215
   go_enter Try.func53, Try.ntmps53
   go_wp2
   repeat (go_quiet (fail); try go_wp2)
   go_ret
   exact ⟨er_, IsS69.n, IsS69.nb, nK HK⟩
  ·rw [if_neg c3] at H
   exact absurd H (by simp)
 ·rw [if_neg c2] at H
  have c2b0 : decide (s0_1 < (s0_0.length : Int)) = false := decide_eq_false c2; clear c2; simp only [Option.some.injEq, Prod.mk.injEq] at H; obtain ⟨rfl, rfl, rfl⟩ := H; obtain ⟨ASz5_0, cSz5_0, HGz5, hgz5, HSz5_0⟩ := HI0.out; have eT := cellS69_0 HGz5; have eU := cellS69_1 HGz5; have eV := cellS69_2 HGz5; have eW := blk_frozen HGz5 1; have eX := blk_frozen HGz5 2; clear HGz5 hgz5
  go_enter Try.func53, Try.ntmps53
  go_wp2
  repeat (go_quiet (fail); try go_wp2)
  go_ret
  exact ⟨er_, IsS69.n, IsS69.nb, nK HK⟩

/-! ### spec_l1Below: function 32 -/
def spec_l1Below.f (s0_0 : List Int) (s0_1 : Int) (s0_2 : Int) (a1 : Int) : Option (Int × Int × Int) := if a1 ≤ 0 then (some (0, s0_1, s0_2)) else (if a1 ≤ 256 then ((spec_l1Byte.f s0_0 s0_1 s0_2).bind fun bC => (if a1 = 0 then (none) else (some (Int.tmod bC.1 a1, bC.2.1, bC.2.2)))) else ((spec_l1Byte.f s0_0 s0_1 s0_2).bind fun bD => ((spec_l1Byte.f s0_0 bD.2.1 bD.2.2).bind fun bt => ((spec_l1Byte.f s0_0 bt.2.1 bt.2.2).bind fun bj => ((spec_l1Byte.f s0_0 bj.2.1 bj.2.2).bind fun bh => (if a1 = 0 then (none) else (some (Int.tmod (wrap64 ((wrap64 ((wrap64 ((wrap64 (bD.1 * 16777216)) + (wrap64 (bt.1 * 65536)))) + (wrap64 (bj.1 * 256)))) + bh.1)) a1, bh.2.1, bh.2.2))))))))
set_option maxHeartbeats 8000000 in
set_option maxRecDepth 100000 in
theorem spec_l1Below.calls (g : Nat) (s0_0 : List Int) (s0_1 : Int) (s0_2 : Int) (a1 : Int) (r1 : Int) (r2 : Int) (r3 : Int) (w0 w : World) (hI : IsS69 w0 w g s0_0 s0_1 s0_2) (hB : Below w0.heap.size w0 w) (h : spec_l1Below.f s0_0 s0_1 s0_2 a1 = some (r1, r2, r3)) :
  Calls Try.prog 32 #[.pointer (some ⟨g, 0, none⟩), .int .i64 a1] w fun e w' => e = .returned (.int .i64 r1) ∧ IsS69 w0 w' g s0_0 r2 r3 ∧ Below w0.heap.size w0 w' ∧ KeepBut w w' g none := by
 have HI0 := Aside0.mk hI; have HK := Aside0.mk (KeepBut.refl w g none); have HL := Aside0.mk hB.size; clear hI; have HW0 := Aside0.mk hB.size; have HB := Aside0.mk hB; clear hB; have H : (if a1 ≤ 0 then (some (0, s0_1, s0_2)) else (if a1 ≤ 256 then ((spec_l1Byte.f s0_0 s0_1 s0_2).bind fun bC => (if a1 = 0 then (none) else (some (Int.tmod bC.1 a1, bC.2.1, bC.2.2)))) else ((spec_l1Byte.f s0_0 s0_1 s0_2).bind fun bD => ((spec_l1Byte.f s0_0 bD.2.1 bD.2.2).bind fun bt => ((spec_l1Byte.f s0_0 bt.2.1 bt.2.2).bind fun bj => ((spec_l1Byte.f s0_0 bj.2.1 bj.2.2).bind fun bh => (if a1 = 0 then (none) else (some (Int.tmod (wrap64 ((wrap64 ((wrap64 ((wrap64 (bD.1 * 16777216)) + (wrap64 (bt.1 * 65536)))) + (wrap64 (bj.1 * 256)))) + bh.1)) a1, bh.2.1, bh.2.2))))))))) = some (r1, r2, r3) := h; clear h
 by_cases c3 : a1 ≤ 0
 ·rw [if_pos c3] at H
  have c3b0 : decide (a1 ≤ 0) = true := decide_eq_true c3; clear c3; simp only [Option.some.injEq, Prod.mk.injEq] at H; obtain ⟨rfl, rfl, rfl⟩ := H
  go_enter Try.func32, Try.ntmps32
  go_wp2
  go_ret
  exact ⟨er_, IsS69.n, IsS69.nb, nK HK⟩
 ·rw [if_neg c3] at H
  have c3b0 : decide (a1 ≤ 0) = false := decide_eq_false c3; clear c3
  by_cases c4 : a1 ≤ 256
  ·rw [if_pos c4] at H
   have c4b0 : decide (a1 ≤ 256) = true := decide_eq_true c4; clear c4; replace H := Option.bind_eq_some_iff.mp H; obtain ⟨⟨dP, dQ, dR⟩, A50, H⟩ := H; replace H : (if a1 = 0 then (none) else (some (Int.tmod dP a1, dQ, dR))) = some (r1, r2, r3) := H; have A5 := Aside0.mk A50; clear A50
   by_cases c6 : a1 = 0
   ·rw [if_pos c6] at H
    exact absurd H (by simp)
   ·rw [if_neg c6] at H
    have c6b0 : (a1 == 0) = false := beq_eq_false_iff_ne.mpr c6; have c6b1 : (a1 != 0) = true := bne_iff_ne.mpr c6; simp only [Option.some.injEq, Prod.mk.injEq] at H; obtain ⟨rfl, rfl, rfl⟩ := H
    go_enter Try.func32, Try.ntmps32
    go_wp2_with (first | ((with_reducible refine gate_callee (f := 53) rfl ?_); refine goesM (some 14) rfl rfl Try.func53 (by kernel_rfl) rfl #[.pointer (some ⟨g, 0, none⟩)] rfl ?_; (with_reducible refine (spec_l1Byte.calls g s0_0 s0_1 s0_2 dP dQ dR w0 _ ?side1 ?side2 A5.out).mono ?_); (case side1 => exact IsS69.n); (case side2 => exact IsS69.nb); rintro e w7 ⟨rfl, hi, hb, hk⟩; refine ⟨_, rfl, ?_⟩; replace HK := Aside0.mk (KeepBut.trans (nK HK) hk (.inl rfl)); replace HB := Aside0.mk (hb); replace HI0 := Aside0.mk (hi); (try clear hb)))
    go_ret
    exact ⟨er_, IsS69.n, IsS69.nb, nK HK⟩
  ·rw [if_neg c4] at H
   have c4b0 : decide (a1 ≤ 256) = false := decide_eq_false c4; clear c4; replace H := Option.bind_eq_some_iff.mp H; obtain ⟨⟨bO, dj, dk⟩, A80, H⟩ := H; replace H : ((spec_l1Byte.f s0_0 dj dk).bind fun bt => ((spec_l1Byte.f s0_0 bt.2.1 bt.2.2).bind fun bj => ((spec_l1Byte.f s0_0 bj.2.1 bj.2.2).bind fun bh => (if a1 = 0 then (none) else (some (Int.tmod (wrap64 ((wrap64 ((wrap64 ((wrap64 (bO * 16777216)) + (wrap64 (bt.1 * 65536)))) + (wrap64 (bj.1 * 256)))) + bh.1)) a1, bh.2.1, bh.2.2)))))) = some (r1, r2, r3) := H; have A8 := Aside0.mk A80; clear A80; replace H := Option.bind_eq_some_iff.mp H; obtain ⟨⟨b6, dl, dm⟩, A90, H⟩ := H; replace H : ((spec_l1Byte.f s0_0 dl dm).bind fun bj => ((spec_l1Byte.f s0_0 bj.2.1 bj.2.2).bind fun bh => (if a1 = 0 then (none) else (some (Int.tmod (wrap64 ((wrap64 ((wrap64 ((wrap64 (bO * 16777216)) + (wrap64 (b6 * 65536)))) + (wrap64 (bj.1 * 256)))) + bh.1)) a1, bh.2.1, bh.2.2))))) = some (r1, r2, r3) := H; have A9 := Aside0.mk A90; clear A90; replace H := Option.bind_eq_some_iff.mp H; obtain ⟨⟨dn, dp, dq⟩, A100, H⟩ := H; replace H : ((spec_l1Byte.f s0_0 dp dq).bind fun bh => (if a1 = 0 then (none) else (some (Int.tmod (wrap64 ((wrap64 ((wrap64 ((wrap64 (bO * 16777216)) + (wrap64 (b6 * 65536)))) + (wrap64 (dn * 256)))) + bh.1)) a1, bh.2.1, bh.2.2)))) = some (r1, r2, r3) := H; have A10 := Aside0.mk A100; clear A100; replace H := Option.bind_eq_some_iff.mp H; obtain ⟨⟨dS, dT, dU⟩, A110, H⟩ := H; replace H : (if a1 = 0 then (none) else (some (Int.tmod (wrap64 ((wrap64 ((wrap64 ((wrap64 (bO * 16777216)) + (wrap64 (b6 * 65536)))) + (wrap64 (dn * 256)))) + dS)) a1, dT, dU))) = some (r1, r2, r3) := H; have A11 := Aside0.mk A110; clear A110
   by_cases c12 : a1 = 0
   ·rw [if_pos c12] at H
    exact absurd H (by simp)
   ·rw [if_neg c12] at H
    have c12b0 : (a1 == 0) = false := beq_eq_false_iff_ne.mpr c12; have c12b1 : (a1 != 0) = true := bne_iff_ne.mpr c12; simp only [Option.some.injEq, Prod.mk.injEq] at H; obtain ⟨rfl, rfl, rfl⟩ := H
    go_enter Try.func32, Try.ntmps32
    go_wp2_with (first | ((with_reducible refine gate_callee (f := 53) rfl ?_); refine goesM (some 18) rfl rfl Try.func53 (by kernel_rfl) rfl #[.pointer (some ⟨g, 0, none⟩)] rfl ?_; (with_reducible refine (spec_l1Byte.calls g s0_0 s0_1 s0_2 bO dj dk w0 _ ?side1 ?side2 A8.out).mono ?_); (case side1 => exact IsS69.n); (case side2 => exact IsS69.nb); rintro e eY ⟨rfl, hi, hb, hk⟩; refine ⟨_, rfl, ?_⟩; replace HK := Aside0.mk (KeepBut.trans (nK HK) hk (.inl rfl)); replace HB := Aside0.mk (hb); replace HI0 := Aside0.mk (hi); (try clear hb)) | ((with_reducible refine gate_callee (f := 53) rfl ?_); refine goesM (some 20) rfl rfl Try.func53 (by kernel_rfl) rfl #[.pointer (some ⟨g, 0, none⟩)] rfl ?_; (with_reducible refine (spec_l1Byte.calls g s0_0 dj dk b6 dl dm w0 _ ?side1 ?side2 A9.out).mono ?_); (case side1 => exact IsS69.n); (case side2 => exact IsS69.nb); rintro e eZ ⟨rfl, hi, hb, hk⟩; refine ⟨_, rfl, ?_⟩; replace HK := Aside0.mk (KeepBut.trans (nK HK) hk (.inl rfl)); replace HB := Aside0.mk (hb); replace HI0 := Aside0.mk (hi); (try clear hb)) | ((with_reducible refine gate_callee (f := 53) rfl ?_); refine goesM (some 22) rfl rfl Try.func53 (by kernel_rfl) rfl #[.pointer (some ⟨g, 0, none⟩)] rfl ?_; (with_reducible refine (spec_l1Byte.calls g s0_0 dl dm dn dp dq w0 _ ?side1 ?side2 A10.out).mono ?_); (case side1 => exact IsS69.n); (case side2 => exact IsS69.nb); rintro e e0 ⟨rfl, hi, hb, hk⟩; refine ⟨_, rfl, ?_⟩; replace HK := Aside0.mk (KeepBut.trans (nK HK) hk (.inl rfl)); replace HB := Aside0.mk (hb); replace HI0 := Aside0.mk (hi); (try clear hb)) | ((with_reducible refine gate_callee (f := 53) rfl ?_); refine goesM (some 24) rfl rfl Try.func53 (by kernel_rfl) rfl #[.pointer (some ⟨g, 0, none⟩)] rfl ?_; (with_reducible refine (spec_l1Byte.calls g s0_0 dp dq dS dT dU w0 _ ?side1 ?side2 A11.out).mono ?_); (case side1 => exact IsS69.n); (case side2 => exact IsS69.nb); rintro e e1 ⟨rfl, hi, hb, hk⟩; refine ⟨_, rfl, ?_⟩; replace HK := Aside0.mk (KeepBut.trans (nK HK) hk (.inl rfl)); replace HB := Aside0.mk (hb); replace HI0 := Aside0.mk (hi); (try clear hb)))
    go_ret
    exact ⟨er_, IsS69.n, IsS69.nb, nK HK⟩

/-! ### spec_l1PickInt: function 47 -/
def spec_l1PickInt.f (s0_0 : List Int) (s0_1 : Int) (s0_2 : Int) (l1 : List Int) : Option (Int × Int × Int) := (spec_l1Below.f s0_0 s0_1 s0_2 (l1.length : Int)).bind fun bu => (if 0 ≤ bu.1 then (if bu.1 < (l1.length : Int) then (some (rd l1 bu.1, bu.2.1, bu.2.2)) else (none)) else (none))
set_option maxHeartbeats 8000000 in
set_option maxRecDepth 100000 in
theorem spec_l1PickInt.calls (g : Nat) (s0_0 : List Int) (s0_1 : Int) (s0_2 : Int) (A1 : Option Addr) (c1 : Nat) (l1 : List Int) (r1 : Int) (r2 : Int) (r3 : Int) (w0 w : World) (hI : IsS69 w0 w g s0_0 s0_1 s0_2) (hB : Below w0.heap.size w0 w) (hr1 : Kd.C (Kd.int .i64) w A1 l1.length l1) (hc1 : l1.length ≤ c1) (hf1 : ∀ ad, A1 = some ad → 0 < l1.length → ad.block ≠ g) (h : spec_l1PickInt.f s0_0 s0_1 s0_2 l1 = some (r1, r2, r3)) :
  Calls Try.prog 47 #[.pointer (some ⟨g, 0, none⟩), .slice A1 l1.length c1] w fun e w' => e = .returned (.int .i64 r1) ∧ IsS69 w0 w' g s0_0 r2 r3 ∧ Below w0.heap.size w0 w' ∧ KeepBut w w' g none := by
 have d8 := Aside0.mk hr1; have e2 := Aside0.mk hc1; clear hr1 hc1; have HI0 := Aside0.mk hI; have HK := Aside0.mk (KeepBut.refl w g none); have HL := Aside0.mk hB.size; clear hI; have HW0 := Aside0.mk hB.size; have HB := Aside0.mk hB; clear hB; have H : ((spec_l1Below.f s0_0 s0_1 s0_2 (l1.length : Int)).bind fun bu => (if 0 ≤ bu.1 then (if bu.1 < (l1.length : Int) then (some (rd l1 bu.1, bu.2.1, bu.2.2)) else (none)) else (none))) = some (r1, r2, r3) := h; clear h; replace H := Option.bind_eq_some_iff.mp H; obtain ⟨⟨bv, dV, dW⟩, A30, H⟩ := H; replace H : (if 0 ≤ bv then (if bv < (l1.length : Int) then (some (rd l1 bv, dV, dW)) else (none)) else (none)) = some (r1, r2, r3) := H; have A3 := Aside0.mk A30; clear A30
 by_cases c4 : 0 ≤ bv
 ·rw [if_pos c4] at H
  have c4b0 : decide (0 ≤ bv) = true := decide_eq_true c4; clear c4
  by_cases c5 : bv < (l1.length : Int)
  ·rw [if_pos c5] at H
   have c5b0 : decide (bv < (l1.length : Int)) = true := decide_eq_true c5; clear c5; simp only [Option.some.injEq, Prod.mk.injEq] at H; obtain ⟨rfl, rfl, rfl⟩ := H
   go_enter Try.func47, Try.ntmps47
   go_wp2_with (first | ((with_reducible refine gate_callee (f := 32) rfl ?_); refine goesM (some 9) rfl rfl Try.func32 (by kernel_rfl) rfl #[.pointer (some ⟨g, 0, none⟩), .int .i64 (l1.length : Int)] rfl ?_; (with_reducible refine (spec_l1Below.calls g s0_0 s0_1 s0_2 (l1.length : Int) bv dV dW w0 _ ?side1 ?side2 A3.out).mono ?_); (case side1 => exact IsS69.n); (case side2 => exact IsS69.nb); rintro e w6 ⟨rfl, hi, hb, hk⟩; refine ⟨_, rfl, ?_⟩; replace HK := Aside0.mk (KeepBut.trans (nK HK) hk (.inl rfl)); replace HB := Aside0.mk (hb); replace HI0 := Aside0.mk (hi); (try clear hb); have p234 : 0 ≤ (bv : Int) := of_decide_eq_true (by first | (with_reducible assumption) | assumption); have q234 : bv < (l1.length : Int) := of_decide_eq_true (by first | (with_reducible assumption) | assumption); obtain ⟨d9, e234, dX⟩ := Kd.at_int d8.out bv p234 q234; cases e234; replace dX := keep_cell HK.out dX (by first | (rw [add_block]; exact hf1 _ rfl (by omega)) | exact hf1 _ rfl (by omega) | exact hf1 d9 rfl (by omega)); replace p234 := eq_true p234; replace q234 := eq_true q234))
   go_ret
   exact ⟨er_, IsS69.n, IsS69.nb, nK HK⟩
  ·rw [if_neg c5] at H
   exact absurd H (by simp)
 ·rw [if_neg c4] at H
  exact absurd H (by simp)

/-! ### spec_Plain: function 58 -/
def spec_Plain.f (a0 : Int) : Option (Int × Bool × Int × Int × Int × Int) := some (Go.bits .and .i64 a0 65535, false, 0, 0, 0, 0)
set_option maxHeartbeats 8000000 in
set_option maxRecDepth 100000 in
theorem spec_Plain.calls (a0 : Int) (r1 : Int) (r2 : Bool) (r3 : Int) (r4 : Int) (r5 : Int) (r6 : Int) (w : World) (h : spec_Plain.f a0 = some (r1, r2, r3, r4, r5, r6)) :
  Calls Try.prog 58 #[.int .i64 a0] w fun e w' => e = .returned (.agg #[.int .i64 r1, .bool r2, .int .i64 r3, .int .i64 r4, .int .i64 r5, .int .i64 r6]) ∧ Below w.heap.size w w' := by
 have hu36 := Try.underlying36; have HB := Aside0.mk (Below.refl w.heap.size w); have H : (some (Go.bits .and .i64 a0 65535, false, 0, 0, 0, 0)) = some (r1, r2, r3, r4, r5, r6) := h; clear h; simp only [Option.some.injEq, Prod.mk.injEq] at H; obtain ⟨rfl, rfl, rfl, rfl, rfl, rfl⟩ := H
 go_enter Try.func58, Try.ntmps58
 go_wp2_with (first | ((with_reducible refine gate_dst (N := 2) rfl ?_); refine bxe 2 #[.int .i64 0, .bool false, .int .i64 0, .int .i64 0, .int .i64 0, .int .i64 0] 36 ?_; intro ea hg w2 hbox hb; have dr := hbox; have e3 := nge HB hg; have e4 := nge HB hg; replace HB := nbs HB hb; clear hb hbox hg; obtain ⟨e5, e6, e7, e8, e9, ga⟩ := c6e dr; obtain ⟨gb, gc, gd, gf, gg, gh⟩ := z6_ dr))
 refine bodyPost_ret (results_cell_row rfl _ _ ea 36 #[.int .i64 (Go.bits .and .i64 a0 65535), .bool false, .int .i64 0, .int .i64 0, .int .i64 0, .int .i64 0] (0, 0) _ rfl (q6 dr) Try.underlying36 rfl (by kernel_rfl)) rfl ?_; exact ⟨er_, nbe HB⟩

end Go.Proofs.Ytednioabjiabiaa.PFnMemory
