-- Written by a program of this session (wip/patch.py turns a copy of the kit's print): the functions that the law reaches, and their walks.
import Derived.Test.YtpcladboobfkhaaPFnWorkx0
import Derived.Test.YtpcladboobfkhaaPFnWorkx4
import Derived.Test.YtpcladboobfkhaaPFnWorkx17
import Derived.Test.YtpcladboobfkhaaPFnWorkx26
import Derived.Test.YtpcladboobfkhaaCFnWork
import Derived.Test.YtpcladboobfkhaaEFnWork
namespace Go.Proofs.Ytpcladboobfkhaa.PFnWork
open Go.RowKit Go.Proofs.YtpcladboobfkhaaW.PrintWords Go.Proofs.YtpcladboobfkhaaW.PrintLast Go.Proofs.YtpcladboobfkhaaW.PrintMore Go.Proofs.YtpcladboobfkhaaW.Mine
attribute [local go_sem] dsc dhs dha ddr ddrN
attribute [local go_sem] max2_int min2_int max_two min_two max_three min_three max_four min_four   -- for this text's walks alone
set_option linter.unusedVariables false
set_option linter.unusedSimpArgs false

/-! ### spec_Read: function 95 -/
mutual
def spec_Read.j0 : Nat → Int → Int → Bool → List (S29) → List Bool → Int → Bool → Int → Int → Int → Int → Option (Int × Bool × Int × Int × Int × Int × Int)
 | 0, _, _, _, _, _, _, _, _, _, _, _ => none
 | k + 1, x2, x8, eL, bB, di, dj, dk, dl, dm, dn, dp => if eL = true then (spec_Read.j1 k x2 4 bB di dj dk dl dm dn dp) else (spec_Read.j1 k x2 x8 bB di dj dk dl dm dn dp)
def spec_Read.j1 : Nat → Int → Int → List (S29) → List Bool → Int → Bool → Int → Int → Int → Int → Option (Int × Bool × Int × Int × Int × Int × Int)
 | 0, _, _, _, _, _, _, _, _, _, _ => none
 | k + 1, x2, x8, bB, di, dj, dk, dl, dm, dn, dp => if x8 = 0 then (if 0 ≤ x2 then (if x2 < (bB.length : Int) then ((spec_Taken.f dj dk dl dm dn dp ((rd_T29 bB x2).f0) ((rd_T29 bB x2).f1) ((rd_T29 bB x2).f2.f0) ((rd_T29 bB x2).f2.f1) ((rd_T29 bB x2).f2.f2) ((rd_T29 bB x2).f2.f3)).bind fun bM => ((spec_Filter.f bB di bM.1 bM.2.1 bM.2.2.1 bM.2.2.2.1 bM.2.2.2.2.1 bM.2.2.2.2.2).bind fun br => (some (br.1, br.2.1, br.2.2.1, br.2.2.2.1, br.2.2.2.2.1, br.2.2.2.2.2, 0)))) else (none)) else (none)) else (some (0, false, 0, 0, 0, 0, x8))
end
def spec_Read.f (k : Nat) (l0_0 : List (S29)) (l0_1 : List Bool) (a1_0 : Int) (a1_1 : Bool) (a1_2 : Int) (a1_3 : Int) (a1_4 : Int) (a1_5 : Int) (a2 : Int) : Option (Int × Bool × Int × Int × Int × Int × Int) := (spec_Try.f k a1_0 a1_1 a1_2 a1_3 a1_4 a1_5 a2 1).bind fun bm => (if bm = 0 then ((spec_l1In.f a2 0 (wrap64 ((l0_0.length : Int) - 1))).bind fun bD => (spec_Read.j0 k a2 bm (!bD) l0_0 l0_1 a1_0 a1_1 a1_2 a1_3 a1_4 a1_5)) else (spec_Read.j0 k a2 bm false l0_0 l0_1 a1_0 a1_1 a1_2 a1_3 a1_4 a1_5))
theorem spec_Read.mono_l : ∀ k, (∀ y0 y1 y2 y3 y4 y5 y6 y7 y8 y9 dF, LeO (spec_Read.j0 k y0 y1 y2 y3 y4 y5 y6 y7 y8 y9 dF) (spec_Read.j0 (k + 1) y0 y1 y2 y3 y4 y5 y6 y7 y8 y9 dF)) ∧ (∀ y0 y1 y2 y3 y4 y5 y6 y7 y8 y9, LeO (spec_Read.j1 k y0 y1 y2 y3 y4 y5 y6 y7 y8 y9) (spec_Read.j1 (k + 1) y0 y1 y2 y3 y4 y5 y6 y7 y8 y9))
 | 0 => ⟨fun _ _ _ _ _ _ _ _ _ _ _ r h => by simp [spec_Read.j0] at h, fun _ _ _ _ _ _ _ _ _ _ r h => by simp [spec_Read.j1] at h⟩
 | k + 1 => by
  obtain ⟨ih0, ih1⟩ := spec_Read.mono_l k; refine ⟨?_, ?_⟩
  ·intro y0 y1 y2 y3 y4 y5 y6 y7 y8 y9 dF
   unfold spec_Read.j0
   repeat' first
   | (with_reducible exact ih0 _ _ _ _ _ _ _ _ _ _ _)
   | (with_reducible exact ih1 _ _ _ _ _ _ _ _ _ _)
   | (with_reducible exact spec_Try.mono _ _ _ _ _ _ _ _ _)
   | (with_reducible exact LeO.refl _)
   | (with_reducible exact LeO.none _)
   | (with_reducible refine LeO.ite ?_ ?_)
   | (with_reducible refine LeO.bind ?_ (fun _ => ?_))
   | exact ih0 _ _ _ _ _ _ _ _ _ _ _
   | exact ih1 _ _ _ _ _ _ _ _ _ _
   | exact spec_Try.mono _ _ _ _ _ _ _ _ _
   | exact LeO.none _
   | refine LeO.ite ?_ ?_
   | refine LeO.bind ?_ (fun _ => ?_)
  ·intro y0 y1 y2 y3 y4 y5 y6 y7 y8 y9
   unfold spec_Read.j1
   repeat' first
   | (with_reducible exact ih0 _ _ _ _ _ _ _ _ _ _ _)
   | (with_reducible exact ih1 _ _ _ _ _ _ _ _ _ _)
   | (with_reducible exact spec_Try.mono _ _ _ _ _ _ _ _ _)
   | (with_reducible exact LeO.refl _)
   | (with_reducible exact LeO.none _)
   | (with_reducible refine LeO.ite ?_ ?_)
   | (with_reducible refine LeO.bind ?_ (fun _ => ?_))
   | exact ih0 _ _ _ _ _ _ _ _ _ _ _
   | exact ih1 _ _ _ _ _ _ _ _ _ _
   | exact spec_Try.mono _ _ _ _ _ _ _ _ _
   | exact LeO.none _
   | refine LeO.ite ?_ ?_
   | refine LeO.bind ?_ (fun _ => ?_)
theorem spec_Read.mono : ∀ a0 a1 a2 a3 a4 a5 a6 a7 a8 k, LeO (spec_Read.f k a0 a1 a2 a3 a4 a5 a6 a7 a8) (spec_Read.f (k + 1) a0 a1 a2 a3 a4 a5 a6 a7 a8) := by
 intro a0 a1 a2 a3 a4 a5 a6 a7 a8 k; obtain ⟨ih0, ih1⟩ := spec_Read.mono_l k
 unfold spec_Read.f
 repeat' first
   | (with_reducible exact ih0 _ _ _ _ _ _ _ _ _ _ _)
   | (with_reducible exact ih1 _ _ _ _ _ _ _ _ _ _)
   | (with_reducible exact spec_Try.mono _ _ _ _ _ _ _ _ _)
   | (with_reducible exact LeO.refl _)
   | (with_reducible exact LeO.none _)
   | (with_reducible refine LeO.ite ?_ ?_)
   | (with_reducible refine LeO.bind ?_ (fun _ => ?_))
   | exact ih0 _ _ _ _ _ _ _ _ _ _ _
   | exact ih1 _ _ _ _ _ _ _ _ _ _
   | exact spec_Try.mono _ _ _ _ _ _ _ _ _
   | exact LeO.none _
   | refine LeO.ite ?_ ?_
   | refine LeO.bind ?_ (fun _ => ?_)
def spec_Read.T6 : Bool × List (List Nat × List Nat) := (true, [([], []), ([], []), ([], []), ([2], [2]), ([], []), ([3, 4], [3, 4]), ([5], [5]), ([1, 6], [1, 6]), ([0, 7, 7], [0, 7]), ([8, 8, 0, 1, 2, 3, 4, 5, 6, 7, 8], [8]), ([9, 0, 1, 2, 3, 4, 5, 6, 7, 8, 9], [])])
def spec_Read.B6 : List Nat := [0, 0, 0, 4, 0, 28, 60, 126, 255, 511, 1023]
theorem spec_Read.tab6 : rtab .any (opsOf Try.f95 6) = spec_Read.T6 := by kernel_rfl
theorem spec_Read.bits6 : waitsOk spec_Read.T6.2 spec_Read.B6 = true := by kernel_rfl
set_option maxHeartbeats 8000000 in
set_option maxRecDepth 100000 in
theorem spec_Read.calls (k : Nat) (A0_0 : Option Addr) (c0_0 : Nat) (l0_0 : List (S29)) (A0_1 : Option Addr) (c0_1 : Nat) (l0_1 : List Bool) (a1_0 : Int) (a1_1 : Bool) (a1_2 : Int) (a1_3 : Int) (a1_4 : Int) (a1_5 : Int) (a2 : Int) (r1 : Int) (r2 : Bool) (r3 : Int) (r4 : Int) (r5 : Int) (r6 : Int) (r7 : Int) (w : World) (hr0_0 : Kd.C k29 w A0_0 l0_0.length l0_0) (hc0_0 : l0_0.length ≤ c0_0) (hr0_1 : Kd.C Kd.bool w A0_1 l0_1.length l0_1) (hc0_1 : l0_1.length ≤ c0_1) (h : spec_Read.f k l0_0 l0_1 a1_0 a1_1 a1_2 a1_3 a1_4 a1_5 a2 = some (r1, r2, r3, r4, r5, r6, r7)) :
  Calls Try.prog 95 #[.agg #[.slice A0_0 l0_0.length c0_0, .slice A0_1 l0_1.length c0_1], .agg #[.int .i64 a1_0, .bool a1_1, .int .i64 a1_2, .int .i64 a1_3, .int .i64 a1_4, .int .i64 a1_5], .int .i64 a2] w fun e w' => e = .returned (.tuple #[.agg #[.int .i64 r1, .bool r2, .int .i64 r3, .int .i64 r4, .int .i64 r5, .int .i64 r6], .int .i64 r7]) ∧ Below w.heap.size w w' := by
 have hu58 := Try.underlying58; have hu29 := Try.underlying29; have bN := Aside0.mk hr0_0; have bS := Aside0.mk hc0_0; clear hr0_0 hc0_0; have bT := Aside0.mk hr0_1; have bU := Aside0.mk hc0_1; clear hr0_1 hc0_1; have HB := Aside0.mk (Below.refl w.heap.size w); have H := h; clear h; unfold spec_Read.f at H; (try dsimp only at H); replace H := Option.bind_eq_some_iff.mp H; obtain ⟨bm, A40, H⟩ := H; (try dsimp only at H); have A4 := Aside0.mk A40; clear A40; have dG := Aside0.mk H; clear H
 go_enter Try.func95, Try.ntmps95
 go_upto_region 2 with (first | ((with_reducible refine gate_dst (N := 3) rfl ?_); (try (refine gate_guard (by rfl) ?_; dsimp only)); refine bxe 3 #[.slice A0_0 l0_0.length c0_0, .slice A0_1 l0_1.length c0_1] 58 ?_; intro dq hg w6 hbox hb; have bj := hbox; have gZ := nge HB hg; have g0 := nge HB hg; replace HB := nbs HB hb; clear hb hbox hg) | ((with_reducible refine gate_dst (N := 4) rfl ?_); (try (refine gate_guard (by rfl) ?_; dsimp only)); refine bxe 4 #[.int .i64 a1_0, .bool a1_1, .int .i64 a1_2, .int .i64 a1_3, .int .i64 a1_4, .int .i64 a1_5] 29 ?_; intro bF hg w7 hbox hb; have bg := hbox; have g1 := nge HB hg; have g2 := nge HB hg; have d7 := nlt bj hg; have d8 := ngt bj hg; replace bj := nblk bj hb; replace HB := nbs HB hb; clear hb hbox hg) | ((with_reducible refine gate_dst (N := 6) rfl ?_); (try (refine gate_guard (by rfl) ?_; dsimp only)); refine bxe 6 #[.int .i64 0, .bool false, .int .i64 0, .int .i64 0, .int .i64 0, .int .i64 0] 29 ?_; intro bd hg w8 hbox hb; have bk := hbox; have bi := nge HB hg; have g3 := nge HB hg; have bV := nlt bj hg; have dH := ngt bj hg; have bE := nlt bg hg; have dI := ngt bg hg; replace bj := nblk bj hb; replace bg := nblk bg hb; replace HB := nbs HB hb; clear hb hbox hg; have g4 := d8.out; have g5 := d7.out; have g7 := bE.out; have g8 := dI.out; obtain ⟨d9, ea, eb, ec, ed, ee⟩ := c6e bg; obtain ⟨ef, eg, eh, ei, ej, ek⟩ := z6_ bg) | ((with_reducible refine gate_callee (f := 25) rfl ?_); refine goesM (some 11) rfl rfl Try.func25 (by kernel_rfl) rfl #[.agg #[.int .i64 a1_0, .bool a1_1, .int .i64 a1_2, .int .i64 a1_3, .int .i64 a1_4, .int .i64 a1_5], .int .i64 a2, .int .i64 1] rfl ?_; (with_reducible refine (spec_Try.calls k a1_0 a1_1 a1_2 a1_3 a1_4 a1_5 a2 1 bm _ A4.out).mono ?_); rintro e eM ⟨rfl, hb⟩; refine ⟨_, rfl, ?_⟩; replace bj := nblk bj hb; replace bg := nblk bg hb; replace bk := nblk bk hb; replace HB := nbs HB hb; (try clear hb)))
 (try simp only [Act.put, List.setIfInBounds_toArray, List.set_cons_zero, List.set_cons_succ])
 go_cut [22] (fun eN wc => ∃ (kq : Nat) (dr : Bool), eN = .bool dr ∧ Aside0 (spec_Read.j0 kq a2 bm dr l0_0 l0_1 a1_0 a1_1 a1_2 a1_3 a1_4 a1_5 = some (r1, r2, r3, r4, r5, r6, r7)) ∧ Aside0 (kq ≤ k) ∧ Aside0 (wc.heap[dq]? = some (.cells #[(.slice A0_0 l0_0.length c0_0), (.slice A0_1 l0_1.length c0_1)] 58 (0, 0))) ∧ Aside0 (wc.heap[bF]? = some (.cells #[.int .i64 a1_0, .bool a1_1, .int .i64 a1_2, .int .i64 a1_3, .int .i64 a1_4, .int .i64 a1_5] 29 (0, 0))) ∧ Aside0 (wc.heap[bd]? = some (.cells #[.int .i64 0, .bool false, .int .i64 0, .int .i64 0, .int .i64 0, .int .i64 0] 29 (0, 0))) ∧ Aside0 (Below w.heap.size w wc))
 case first =>
  have H := dG.out; clear dG
  by_cases c13 : bm = 0
  ·rw [if_pos c13] at H
   have c13b0 : (bm == 0) = true := beq_iff_eq.mpr c13; have c13b1 : (bm != 0) = false := bne_eq_false_iff_eq.mpr c13; clear c13; (first | rw [c13b0] | (simp only [i64_w, i32_w]; rw [c13b0]) | skip); replace H := Option.bind_eq_some_iff.mp H; obtain ⟨bD, A140, H⟩ := H; (try dsimp only at H); have A14 := Aside0.mk A140; clear A140; have H' := Aside0.mk H; clear H; have el := d7.out; have em := d8.out; have g9 := bV.out; have ha := dH.out; obtain ⟨en, eo⟩ := c2e bj; obtain ⟨ep, er⟩ := z2_ bj
   go_wp2_with (first | (go_at_call 32; (with_reducible refine (spec_l1In.calls a2 0 (wrap64 ((l0_0.length : Int) - 1)) bD _ A14.out).mono ?_); rintro e w' ⟨rfl, ⟨nd, rfl⟩⟩))
   go_meet
   case rel => exact ⟨_, (!bD), (by first | rfl | (simp; done) | (simp [*]; done)), H', ⟨by first | omega | exact Nat.le_refl _⟩, ⟨nb bj⟩, ⟨nb bg⟩, ⟨nb bk⟩, ⟨nbe HB⟩⟩
  ·rw [if_neg c13] at H
   have c13b0 : (bm == 0) = false := beq_eq_false_iff_ne.mpr c13; have c13b1 : (bm != 0) = true := bne_iff_ne.mpr c13; (first | rw [c13b0] | (simp only [i64_w, i32_w]; rw [c13b0]) | skip); have H' := Aside0.mk H; clear H; go_wp2
   go_meet
   case rel => exact ⟨_, (false), (by first | rfl | (simp; done) | (simp [*]; done)), H', ⟨by first | omega | exact Nat.le_refl _⟩, ⟨nb bj⟩, ⟨nb bg⟩, ⟨nb bk⟩, ⟨nbe HB⟩⟩
 case rest =>
  clear dG; try clear c1
  try clear c2
  try clear p2
  try clear p6
  try clear c9
  try clear c10
  try clear c13
  try clear c13b0
  try clear c13b1
  try clear c15
  try clear c16
  try clear d9
  try clear ea
  try clear eb
  try clear ec
  try clear ed
  try clear ee
  try clear en
  try clear eo
  try clear ef
  try clear eg
  try clear eh
  try clear ei
  try clear ej
  try clear ek
  try clear ep
  try clear er
  obtain ⟨kq, dr, rfl, HA, es, bj, bg, bk, HB⟩ := hcut
  cases kq with
  | zero => exact absurd HA.out (by simp [spec_Read.j0])
  | succ kj4 =>
   have H := HA.out; clear HA; simp only [spec_Read.j0] at H; have dJ := Aside0.mk H; clear H
   go_upto_if 22 with (fail)
   go_cut [8] (fun v8 wc => ∃ (kq : Nat) (bG : Int), v8 = .int .i64 bG ∧ Aside0 (spec_Read.j1 kq a2 bG l0_0 l0_1 a1_0 a1_1 a1_2 a1_3 a1_4 a1_5 = some (r1, r2, r3, r4, r5, r6, r7)) ∧ Aside0 (kq ≤ kj4) ∧ Aside0 (wc.heap[dq]? = some (.cells #[(.slice A0_0 l0_0.length c0_0), (.slice A0_1 l0_1.length c0_1)] 58 (0, 0))) ∧ Aside0 (wc.heap[bF]? = some (.cells #[.int .i64 a1_0, .bool a1_1, .int .i64 a1_2, .int .i64 a1_3, .int .i64 a1_4, .int .i64 a1_5] 29 (0, 0))) ∧ Aside0 (wc.heap[bd]? = some (.cells #[.int .i64 0, .bool false, .int .i64 0, .int .i64 0, .int .i64 0, .int .i64 0] 29 (0, 0))) ∧ Aside0 (Below w.heap.size w wc))
   case first =>
    have H := dJ.out; clear dJ
    by_cases c19 : dr = true
    ·subst c19
     rw [if_pos rfl] at H; (try dsimp only at H); have H' := Aside0.mk H; clear H; go_wp2
     go_meet
     case rel => exact ⟨_, (4), (by first | rfl | (simp; done) | (simp [*]; done)), H', ⟨by have := es.out; first | omega | exact Nat.le_refl _⟩, ⟨nb bj⟩, ⟨nb bg⟩, ⟨nb bk⟩, ⟨nbe HB⟩⟩
    ·replace c19 := Bool.eq_false_iff.mpr c19
     subst c19; rw [if_neg (show ¬ (false = true) by decide)] at H; (try dsimp only at H); have H' := Aside0.mk H; clear H; go_wp2
     go_meet
     case rel => exact ⟨_, (bm), (by first | rfl | (simp; done) | (simp [*]; done)), H', ⟨by have := es.out; first | omega | exact Nat.le_refl _⟩, ⟨nb bj⟩, ⟨nb bg⟩, ⟨nb bk⟩, ⟨nbe HB⟩⟩
   case rest =>
    clear dJ; try clear c1
    try clear c2
    try clear p2
    try clear p6
    try clear c9
    try clear c10
    try clear c13
    try clear c13b0
    try clear c13b1
    try clear c15
    try clear c16
    try clear c19
    try clear d9
    try clear ea
    try clear eb
    try clear ec
    try clear ed
    try clear ee
    try clear en
    try clear eo
    try clear ef
    try clear eg
    try clear eh
    try clear ei
    try clear ej
    try clear ek
    try clear ep
    try clear er
    try clear p2
    try clear p6
    obtain ⟨kq, bG, rfl, HA, hc, bj, bg, bk, HB⟩ := hcut
    cases kq with
    | zero => exact absurd HA.out (by simp [spec_Read.j1])
    | succ kj17 =>
     have H := HA.out; clear HA; simp only [spec_Read.j1] at H
     by_cases c20 : bG = 0
     ·rw [if_pos c20] at H
      have c20b0 : (bG == 0) = true := beq_iff_eq.mpr c20; have c20b1 : (bG != 0) = false := bne_eq_false_iff_eq.mpr c20; clear c20
      by_cases c21 : 0 ≤ a2
      ·rw [if_pos c21] at H
       have c21b0 : decide (0 ≤ a2) = true := decide_eq_true c21; clear c21
       by_cases c22 : a2 < (l0_0.length : Int)
       ·rw [if_pos c22] at H
        have c22b0 : decide (a2 < (l0_0.length : Int)) = true := decide_eq_true c22; clear c22; replace H := Option.bind_eq_some_iff.mp H; obtain ⟨⟨dt, du, dv, dw, dx, dy⟩, A230, H⟩ := H; (try dsimp only at H); have A23 := Aside0.mk A230; clear A230; replace H := Option.bind_eq_some_iff.mp H; obtain ⟨⟨dK, dL, dM, dN, dO, dP⟩, A240, H⟩ := H; (try dsimp only at H); have A24 := Aside0.mk A240; clear A240; simp only [Option.some.injEq, Prod.mk.injEq] at H; obtain ⟨rfl, rfl, rfl, rfl, rfl, rfl, rfl⟩ := H
        try go_wp2
        replace bj := Aside0.mk (blk_drew bj.out); replace bg := Aside0.mk (blk_drew bg.out); replace bk := Aside0.mk (blk_drew bk.out); replace HB := Aside0.mk (below_drew1 HB.out); have p1359 : 0 ≤ (a2 : Int) := of_decide_eq_true (by first | (with_reducible assumption) | assumption); have q1359 : a2 < (l0_0.length : Int) := of_decide_eq_true (by first | (with_reducible assumption) | assumption); obtain ⟨bs, e1359, bW, bX, bY, bZ, b0, b1⟩ := at_T29 bN.out a2 p1359 q1359; have bt := b1; have bu := b0; have bv := bZ; have bw := bY; have bx := bX; have bz := bW
        cases e1359
        replace bW := (HB.out.cell (World.block_lt_of_cell? w _ bW)).trans bW; replace bX := (HB.out.cell (World.block_lt_of_cell? w _ bX)).trans bX; replace bY := (HB.out.cell (World.block_lt_of_cell? w _ bY)).trans bY; replace bZ := (HB.out.cell (World.block_lt_of_cell? w _ bZ)).trans bZ; replace b0 := (HB.out.cell (World.block_lt_of_cell? w _ b0)).trans b0; replace b1 := (HB.out.cell (World.block_lt_of_cell? w _ b1)).trans b1; replace p1359 := eq_true p1359; replace q1359 := eq_true q1359; refine start_ (n := 11) (S := fun w' => w'.cell? ⟨dq, 0, none⟩ = some (.slice (some bs) l0_0.length c0_0) ∧ w'.cell? ⟨dq, 1, none⟩ = some (.slice A0_1 l0_1.length c0_1) ∧ w'.cell? ⟨bF, 0, none⟩ = some (.int .i64 a1_0) ∧ w'.cell? ⟨bF, 1, none⟩ = some (.bool a1_1) ∧ w'.cell? ⟨bF, 2, none⟩ = some (.int .i64 a1_2) ∧ w'.cell? ⟨bF, 3, none⟩ = some (.int .i64 a1_3) ∧ w'.cell? ⟨bF, 4, none⟩ = some (.int .i64 a1_4) ∧ w'.cell? ⟨bF, 5, none⟩ = some (.int .i64 a1_5) ∧ w'.cell? (bs.add ((a2).toNat * 6)) = some (.int .i64 ((rd_T29 l0_0 a2).f0)) ∧ w'.cell? ⟨(bs.add ((a2).toNat * 6)).block, (bs.add ((a2).toNat * 6)).off + 1, none⟩ = some (.bool ((rd_T29 l0_0 a2).f1)) ∧ w'.cell? ⟨(bs.add ((a2).toNat * 6)).block, (bs.add ((a2).toNat * 6)).off + 2, none⟩ = some (.int .i64 ((rd_T29 l0_0 a2).f2.f0)) ∧ w'.cell? ⟨(bs.add ((a2).toNat * 6)).block, (bs.add ((a2).toNat * 6)).off + 3, none⟩ = some (.int .i64 ((rd_T29 l0_0 a2).f2.f1)) ∧ w'.cell? ⟨(bs.add ((a2).toNat * 6)).block, (bs.add ((a2).toNat * 6)).off + 4, none⟩ = some (.int .i64 ((rd_T29 l0_0 a2).f2.f2)) ∧ w'.cell? ⟨(bs.add ((a2).toNat * 6)).block, (bs.add ((a2).toNat * 6)).off + 5, none⟩ = some (.int .i64 ((rd_T29 l0_0 a2).f2.f3))) (ds := []) #[false, false, false, false, false, false, false, false, false, false, false] (by kernel_rfl) rfl rfl ⟨(blk_cell bj.out 0).trans rfl, (blk_cell bj.out 1).trans rfl, (blk_cell bg.out 0).trans rfl, (blk_cell bg.out 1).trans rfl, (blk_cell bg.out 2).trans rfl, (blk_cell bg.out 3).trans rfl, (blk_cell bg.out 4).trans rfl, (blk_cell bg.out 5).trans rfl, ((HB.out.cell (World.block_lt_of_cell? w _ bz)).trans bz), ((HB.out.cell (World.block_lt_of_cell? w _ bx)).trans bx), ((HB.out.cell (World.block_lt_of_cell? w _ bw)).trans bw), ((HB.out.cell (World.block_lt_of_cell? w _ bv)).trans bv), ((HB.out.cell (World.block_lt_of_cell? w _ bu)).trans bu), ((HB.out.cell (World.block_lt_of_cell? w _ bt)).trans bt)⟩ (fun hHeld => ?_); refine with_tabW spec_Read.tab6 spec_Read.bits6 (fun HT_ HW_ => ?_); generalize wc.drew = et at bj bg bk HB bW bX bY bZ b0 b1 hHeld ⊢; refine rP HT_.out 2 29 #[false, false, true, false, false, false, false, false, false, false, false] ?_; refine rP HT_.out 4 31 #[false, false, true, false, true, false, false, false, false, false, false] ?_; refine rT HT_.out HW_.out hHeld 0 27 #[true, false, true, false, true, false, false, false, false, false, false] ?_; refine rT HT_.out HW_.out hHeld 1 28 #[true, true, true, false, true, false, false, false, false, false, false] ?_; refine rT HT_.out HW_.out hHeld 3 30 #[true, true, true, true, true, false, false, false, false, false, false] ?_; refine rP HT_.out 5 32 #[true, true, true, true, true, true, false, false, false, false, false] ?_; refine rT HT_.out HW_.out hHeld 6 33 #[true, true, true, true, true, true, true, false, false, false, false] ?_; refine one_ (i := 7) (N := some 34) #[true, true, true, true, true, true, true, true, false, false, false] rfl rfl (one_of HT_.out (by kernel_rfl)) (by decide) (fun K hK => ?_); refine goesR Try.func98 (by kernel_rfl) rfl #[.agg #[.int .i64 a1_0, .bool a1_1, .int .i64 a1_2, .int .i64 a1_3, .int .i64 a1_4, .int .i64 a1_5], .agg #[.int .i64 ((rd_T29 l0_0 a2).f0), .bool ((rd_T29 l0_0 a2).f1), .int .i64 ((rd_T29 l0_0 a2).f2.f0), .int .i64 ((rd_T29 l0_0 a2).f2.f1), .int .i64 ((rd_T29 l0_0 a2).f2.f2), .int .i64 ((rd_T29 l0_0 a2).f2.f3)]] (by rfl) rfl rfl ?_; (with_reducible refine (spec_Taken.calls a1_0 a1_1 a1_2 a1_3 a1_4 a1_5 ((rd_T29 l0_0 a2).f0) ((rd_T29 l0_0 a2).f1) ((rd_T29 l0_0 a2).f2.f0) ((rd_T29 l0_0 a2).f2.f1) ((rd_T29 l0_0 a2).f2.f2) ((rd_T29 l0_0 a2).f2.f3) dt du dv dw dx dy _ A23.out).mono ?_); rintro e hd ⟨rfl, hb⟩; refine ⟨_, rfl, ?_⟩; replace bj := nblk bj hb; replace bg := nblk bg hb; replace bk := nblk bk hb; replace HB := nbs HB hb; (try clear hb); refine hK.out _ _ ⟨(blk_cell bj.out 0).trans rfl, (blk_cell bj.out 1).trans rfl, (blk_cell bg.out 0).trans rfl, (blk_cell bg.out 1).trans rfl, (blk_cell bg.out 2).trans rfl, (blk_cell bg.out 3).trans rfl, (blk_cell bg.out 4).trans rfl, (blk_cell bg.out 5).trans rfl, ((HB.out.cell (World.block_lt_of_cell? w _ bz)).trans bz), ((HB.out.cell (World.block_lt_of_cell? w _ bx)).trans bx), ((HB.out.cell (World.block_lt_of_cell? w _ bw)).trans bw), ((HB.out.cell (World.block_lt_of_cell? w _ bv)).trans bv), ((HB.out.cell (World.block_lt_of_cell? w _ bu)).trans bu), ((HB.out.cell (World.block_lt_of_cell? w _ bt)).trans bt)⟩ (fun hHeld => ?_); clear hK K; refine norm_ (a' := ?_) ?_ ?_; rotate_left
        ·show Act.put _ (some 34) _ = _
         simp only [Act.put, List.setIfInBounds_toArray, List.set_cons_zero, List.set_cons_succ, i64_w, i32_w]; rfl
        refine one_ (i := 8) (N := some 35) #[true, true, true, true, true, true, true, true, true, false, false] rfl rfl (one_of HT_.out (by kernel_rfl)) (by decide) (fun K hK => ?_); refine goesR Try.func97 (by kernel_rfl) rfl #[.agg #[.slice (some bs) l0_0.length c0_0, .slice A0_1 l0_1.length c0_1], .agg #[.int .i64 dt, .bool du, .int .i64 dv, .int .i64 dw, .int .i64 dx, .int .i64 dy]] (by rfl) rfl rfl ?_; (with_reducible refine (spec_Filter.calls _ _ l0_0 _ _ l0_1 dt du dv dw dx dy dK dL dM dN dO dP _ ?side1 ?side2 ?side3 ?side4 A24.out).mono ?_); (case side1 => exact nCb bN HB); (case side2 => exact bS.out); (case side3 => exact nCb bT HB); (case side4 => exact bU.out); rintro e bO ⟨rfl, hb⟩; refine ⟨_, rfl, ?_⟩; replace bj := nblk bj hb; replace bg := nblk bg hb; replace bk := nblk bk hb; replace HB := nbs HB hb; (try clear hb); refine hK.out _ _ ⟨(blk_cell bj.out 0).trans rfl, (blk_cell bj.out 1).trans rfl, (blk_cell bg.out 0).trans rfl, (blk_cell bg.out 1).trans rfl, (blk_cell bg.out 2).trans rfl, (blk_cell bg.out 3).trans rfl, (blk_cell bg.out 4).trans rfl, (blk_cell bg.out 5).trans rfl, ((HB.out.cell (World.block_lt_of_cell? w _ bz)).trans bz), ((HB.out.cell (World.block_lt_of_cell? w _ bx)).trans bx), ((HB.out.cell (World.block_lt_of_cell? w _ bw)).trans bw), ((HB.out.cell (World.block_lt_of_cell? w _ bv)).trans bv), ((HB.out.cell (World.block_lt_of_cell? w _ bu)).trans bu), ((HB.out.cell (World.block_lt_of_cell? w _ bt)).trans bt)⟩ (fun hHeld => ?_); clear hK K; refine norm_ (a' := ?_) ?_ ?_; rotate_left
        ·show Act.put _ (some 35) _ = _
         simp only [Act.put, List.setIfInBounds_toArray, List.set_cons_zero, List.set_cons_succ, i64_w, i32_w]; rfl
        refine one_ (i := 9) (N := none) #[true, true, true, true, true, true, true, true, true, true, false] rfl rfl (one_of HT_.out (by kernel_rfl)) (by decide) (fun K hK => ?_); have hs28 : bO.cell? ⟨bd, 0, none⟩ = some (.int .i64 0) := (blk_cell bk.out 0).trans rfl; have hfs28 := blk_frozen bk.out 0; have hns28_0 := bV.out; have hns28_1 := bE.out; have hms28_0 := dH.out; have hms28_1 := dI.out; have hs29 : bO.cell? ⟨bd, 1, none⟩ = some (.bool false) := (blk_cell bk.out 1).trans rfl; have hfs29 := blk_frozen bk.out 1; have hs30 : bO.cell? ⟨bd, 2, none⟩ = some (.int .i64 0) := (blk_cell bk.out 2).trans rfl; have hfs30 := blk_frozen bk.out 2; have hs31 : bO.cell? ⟨bd, 3, none⟩ = some (.int .i64 0) := (blk_cell bk.out 3).trans rfl; have hfs31 := blk_frozen bk.out 3; have hs32 : bO.cell? ⟨bd, 4, none⟩ = some (.int .i64 0) := (blk_cell bk.out 4).trans rfl; have hfs32 := blk_frozen bk.out 4; have hs33 : bO.cell? ⟨bd, 5, none⟩ = some (.int .i64 0) := (blk_cell bk.out 5).trans rfl; have hfs33 := blk_frozen bk.out 5; refine skip_ (w1 := ?_) (by rfl) rfl ?_ ?_; rotate_left
        ·go_simp
         rfl
        refine hK.out _ _ ⟨(g6 bV.out hHeld.1), (g6 bV.out hHeld.2.1), (g6 bE.out hHeld.2.2.1), (g6 bE.out hHeld.2.2.2.1), (g6 bE.out hHeld.2.2.2.2.1), (g6 bE.out hHeld.2.2.2.2.2.1), (g6 bE.out hHeld.2.2.2.2.2.2.1), (g6 bE.out hHeld.2.2.2.2.2.2.2.1), ((cell_far (p := ⟨bd, _, none⟩) (bne_ bz bi.out) _).trans (((cell_far (p := ⟨bd, _, none⟩) (bne_ bz bi.out) _).trans (((cell_far (p := ⟨bd, _, none⟩) (bne_ bz bi.out) _).trans (((cell_far (p := ⟨bd, _, none⟩) (bne_ bz bi.out) _).trans (((cell_far (p := ⟨bd, _, none⟩) (bne_ bz bi.out) _).trans (((cell_far (p := ⟨bd, _, none⟩) (bne_ bz bi.out) _).trans (hHeld.2.2.2.2.2.2.2.2.1)))))))))))), ((cell_far (p := ⟨bd, _, none⟩) (bne_ bx bi.out) _).trans (((cell_far (p := ⟨bd, _, none⟩) (bne_ bx bi.out) _).trans (((cell_far (p := ⟨bd, _, none⟩) (bne_ bx bi.out) _).trans (((cell_far (p := ⟨bd, _, none⟩) (bne_ bx bi.out) _).trans (((cell_far (p := ⟨bd, _, none⟩) (bne_ bx bi.out) _).trans (((cell_far (p := ⟨bd, _, none⟩) (bne_ bx bi.out) _).trans (hHeld.2.2.2.2.2.2.2.2.2.1)))))))))))), ((cell_far (p := ⟨bd, _, none⟩) (bne_ bw bi.out) _).trans (((cell_far (p := ⟨bd, _, none⟩) (bne_ bw bi.out) _).trans (((cell_far (p := ⟨bd, _, none⟩) (bne_ bw bi.out) _).trans (((cell_far (p := ⟨bd, _, none⟩) (bne_ bw bi.out) _).trans (((cell_far (p := ⟨bd, _, none⟩) (bne_ bw bi.out) _).trans (((cell_far (p := ⟨bd, _, none⟩) (bne_ bw bi.out) _).trans (hHeld.2.2.2.2.2.2.2.2.2.2.1)))))))))))), ((cell_far (p := ⟨bd, _, none⟩) (bne_ bv bi.out) _).trans (((cell_far (p := ⟨bd, _, none⟩) (bne_ bv bi.out) _).trans (((cell_far (p := ⟨bd, _, none⟩) (bne_ bv bi.out) _).trans (((cell_far (p := ⟨bd, _, none⟩) (bne_ bv bi.out) _).trans (((cell_far (p := ⟨bd, _, none⟩) (bne_ bv bi.out) _).trans (((cell_far (p := ⟨bd, _, none⟩) (bne_ bv bi.out) _).trans (hHeld.2.2.2.2.2.2.2.2.2.2.2.1)))))))))))), ((cell_far (p := ⟨bd, _, none⟩) (bne_ bu bi.out) _).trans (((cell_far (p := ⟨bd, _, none⟩) (bne_ bu bi.out) _).trans (((cell_far (p := ⟨bd, _, none⟩) (bne_ bu bi.out) _).trans (((cell_far (p := ⟨bd, _, none⟩) (bne_ bu bi.out) _).trans (((cell_far (p := ⟨bd, _, none⟩) (bne_ bu bi.out) _).trans (((cell_far (p := ⟨bd, _, none⟩) (bne_ bu bi.out) _).trans (hHeld.2.2.2.2.2.2.2.2.2.2.2.2.1)))))))))))), ((cell_far (p := ⟨bd, _, none⟩) (bne_ bt bi.out) _).trans (((cell_far (p := ⟨bd, _, none⟩) (bne_ bt bi.out) _).trans (((cell_far (p := ⟨bd, _, none⟩) (bne_ bt bi.out) _).trans (((cell_far (p := ⟨bd, _, none⟩) (bne_ bt bi.out) _).trans (((cell_far (p := ⟨bd, _, none⟩) (bne_ bt bi.out) _).trans (((cell_far (p := ⟨bd, _, none⟩) (bne_ bt bi.out) _).trans (hHeld.2.2.2.2.2.2.2.2.2.2.2.2.2))))))))))))⟩ (fun hHeld => ?_); clear hK K; refine rP HT_.out 10 7 #[true, true, true, true, true, true, true, true, true, true, true] ?_; refine done_ (done_of HT_.out (by kernel_rfl)) ?_
        try go_wp2
        refine bodyPost_ret (results_ct rfl _ _ bd 29 #[.int .i64 dK, .bool dL, .int .i64 dM, .int .i64 dN, .int .i64 dO, .int .i64 dP] (0, 0) _ rfl (q6 bk) Try.underlying29 rfl (by kernel_rfl)) rfl ?_; exact ⟨er_, nbe HB⟩
       ·rw [if_neg c22] at H
        exact absurd H (by simp)
      ·rw [if_neg c21] at H
       exact absurd H (by simp)
     ·rw [if_neg c20] at H
      have c20b0 : (bG == 0) = false := beq_eq_false_iff_ne.mpr c20; have c20b1 : (bG != 0) = true := bne_iff_ne.mpr c20; simp only [Option.some.injEq, Prod.mk.injEq] at H; obtain ⟨rfl, rfl, rfl, rfl, rfl, rfl, rfl⟩ := H; have hf := dH.out; have hh := bV.out; have hj := dI.out; have hl := bE.out; obtain ⟨hm, hn, ho, hp, hq, hr⟩ := c6e bk; obtain ⟨hs, ht, hu, hv, hw, hx⟩ := z6_ bk; go_wp2; refine bodyPost_ret (results_ct rfl _ _ bd 29 #[.int .i64 0, .bool false, .int .i64 0, .int .i64 0, .int .i64 0, .int .i64 0] (0, 0) _ rfl (q6 bk) Try.underlying29 rfl (by kernel_rfl)) rfl ?_; exact ⟨er_, nbe HB⟩
/-! ### spec_MayPut: function 99 -/
def spec_MayPut.f (a0_0 : Int) (a0_1 : Bool) (a0_2 : Int) (a0_3 : Int) (a0_4 : Int) (a0_5 : Int) (a1_0 : Int) (a1_1 : Bool) (a1_2 : Int) (a1_3 : Int) (a1_4 : Int) (a1_5 : Int) : Option (Bool) := if a1_1 = true then (some ((Go.bits .and .i64 a0_4 16) != 0)) else (some true)
set_option maxHeartbeats 8000000 in
set_option maxRecDepth 100000 in
theorem spec_MayPut.calls (a0_0 : Int) (a0_1 : Bool) (a0_2 : Int) (a0_3 : Int) (a0_4 : Int) (a0_5 : Int) (a1_0 : Int) (a1_1 : Bool) (a1_2 : Int) (a1_3 : Int) (a1_4 : Int) (a1_5 : Int) (r : Bool) (w : World) (h : spec_MayPut.f a0_0 a0_1 a0_2 a0_3 a0_4 a0_5 a1_0 a1_1 a1_2 a1_3 a1_4 a1_5 = some r) :
  Calls Try.prog 99 #[.agg #[.int .i64 a0_0, .bool a0_1, .int .i64 a0_2, .int .i64 a0_3, .int .i64 a0_4, .int .i64 a0_5], .agg #[.int .i64 a1_0, .bool a1_1, .int .i64 a1_2, .int .i64 a1_3, .int .i64 a1_4, .int .i64 a1_5]] w fun e w' => e = .returned (.bool r) ∧ Below w.heap.size w w' := by
 have hu29 := Try.underlying29; have H : (if a1_1 = true then (some ((Go.bits .and .i64 a0_4 16) != 0)) else (some true)) = some r := h; clear h
 by_cases c3 : a1_1 = true
 ·subst c3
  rw [if_pos rfl] at H; (try dsimp only at H); obtain rfl := Option.some.inj H
  go_enter Try.func99, Try.ntmps99
  go_wp2
  go_ret; exact ⟨er_, dfi⟩
 ·replace c3 := Bool.eq_false_iff.mpr c3
  subst c3; rw [if_neg (show ¬ (false = true) by decide)] at H; (try dsimp only at H); obtain rfl := Option.some.inj H
  go_enter Try.func99, Try.ntmps99
  go_wp2
  go_ret; exact ⟨er_, dfi⟩
/-! ### spec_l8Write: function 96 -/
def spec_l8Write.f (k : Nat) (l0_0 : List (S29)) (l0_1 : List Bool) (a1_0 : Int) (a1_1 : Bool) (a1_2 : Int) (a1_3 : Int) (a1_4 : Int) (a1_5 : Int) (a2 : Int) (a3_0 : Int) (a3_1 : Bool) (a3_2 : Int) (a3_3 : Int) (a3_4 : Int) (a3_5 : Int) : Option (Int) := (spec_Try.f k a1_0 a1_1 a1_2 a1_3 a1_4 a1_5 a2 2).bind fun bp => (if bp = 0 then ((spec_l1In.f a2 0 (wrap64 ((l0_0.length : Int) - 1))).bind fun bH => (if bH = true then ((spec_MayPut.f a1_0 a1_1 a1_2 a1_3 a1_4 a1_5 a3_0 a3_1 a3_2 a3_3 a3_4 a3_5).bind fun bA => (if bA = true then (some 0) else (some 3))) else (some 4))) else (some bp))
theorem spec_l8Write.mono : ∀ a0 a1 a2 a3 a4 a5 a6 a7 a8 a9 a10 a11 a12 a13 a14 k, LeO (spec_l8Write.f k a0 a1 a2 a3 a4 a5 a6 a7 a8 a9 a10 a11 a12 a13 a14) (spec_l8Write.f (k + 1) a0 a1 a2 a3 a4 a5 a6 a7 a8 a9 a10 a11 a12 a13 a14) := by
 intro a0 a1 a2 a3 a4 a5 a6 a7 a8 a9 a10 a11 a12 a13 a14 k
 unfold spec_l8Write.f
 repeat' first
   | (with_reducible exact spec_Try.mono _ _ _ _ _ _ _ _ _)
   | (with_reducible exact LeO.refl _)
   | (with_reducible exact LeO.none _)
   | (with_reducible refine LeO.ite ?_ ?_)
   | (with_reducible refine LeO.bind ?_ (fun _ => ?_))
   | exact spec_Try.mono _ _ _ _ _ _ _ _ _
   | exact LeO.none _
   | refine LeO.ite ?_ ?_
   | refine LeO.bind ?_ (fun _ => ?_)
set_option maxHeartbeats 8000000 in
set_option maxRecDepth 100000 in
theorem spec_l8Write.calls (k : Nat) (A0_0 : Option Addr) (c0_0 : Nat) (l0_0 : List (S29)) (A0_1 : Option Addr) (c0_1 : Nat) (l0_1 : List Bool) (a1_0 : Int) (a1_1 : Bool) (a1_2 : Int) (a1_3 : Int) (a1_4 : Int) (a1_5 : Int) (a2 : Int) (a3_0 : Int) (a3_1 : Bool) (a3_2 : Int) (a3_3 : Int) (a3_4 : Int) (a3_5 : Int) (r : Int) (w : World) (hr0_0 : Kd.C k29 w A0_0 l0_0.length l0_0) (hc0_0 : l0_0.length ≤ c0_0) (hr0_1 : Kd.C Kd.bool w A0_1 l0_1.length l0_1) (hc0_1 : l0_1.length ≤ c0_1) (h : spec_l8Write.f k l0_0 l0_1 a1_0 a1_1 a1_2 a1_3 a1_4 a1_5 a2 a3_0 a3_1 a3_2 a3_3 a3_4 a3_5 = some r) :
  Calls Try.prog 96 #[.agg #[.slice A0_0 l0_0.length c0_0, .slice A0_1 l0_1.length c0_1], .agg #[.int .i64 a1_0, .bool a1_1, .int .i64 a1_2, .int .i64 a1_3, .int .i64 a1_4, .int .i64 a1_5], .int .i64 a2, .agg #[.int .i64 a3_0, .bool a3_1, .int .i64 a3_2, .int .i64 a3_3, .int .i64 a3_4, .int .i64 a3_5]] w fun e w' => e = .returned (.int .i64 r) ∧ Below w.heap.size w w' := by
 have hu58 := Try.underlying58; have hu29 := Try.underlying29; have bN := Aside0.mk hr0_0; have bS := Aside0.mk hc0_0; clear hr0_0 hc0_0; have bT := Aside0.mk hr0_1; have bU := Aside0.mk hc0_1; clear hr0_1 hc0_1; have H := h; clear h; unfold spec_l8Write.f at H; (try dsimp only at H); replace H := Option.bind_eq_some_iff.mp H; obtain ⟨bp, A50, H⟩ := H; (try dsimp only at H); have A5 := Aside0.mk A50; clear A50
 by_cases c6 : bp = 0
 ·rw [if_pos c6] at H
  have c6b0 : (bp == 0) = true := beq_iff_eq.mpr c6; have c6b1 : (bp != 0) = false := bne_eq_false_iff_eq.mpr c6; clear c6; replace H := Option.bind_eq_some_iff.mp H; obtain ⟨bH, A70, H⟩ := H; (try dsimp only at H); have A7 := Aside0.mk A70; clear A70
  by_cases c8 : bH = true
  ·subst c8
   rw [if_pos rfl] at H; (try dsimp only at H); replace H := Option.bind_eq_some_iff.mp H; obtain ⟨bA, A90, H⟩ := H; (try dsimp only at H); have A9 := Aside0.mk A90; clear A90
   by_cases c10 : bA = true
   ·subst c10
    rw [if_pos rfl] at H; (try dsimp only at H); obtain rfl := Option.some.inj H
    go_enter Try.func96, Try.ntmps96
    go_wp2_with (first | (go_at_call 25; (with_reducible refine dmn (spec_Try.calls (h := A5.out) (w := _)) ?_); intro x1 hb1 hc; have hw := dsz (n := w.heap.size + 1 + 1 + 1) hb1; have z := dl3 hw) | (go_at_call 32; (with_reducible refine (spec_l1In.calls (h := A7.out) (w := _)).mono ?_); rintro e w' ⟨rfl, ⟨nd_, rfl⟩⟩) | (go_at_call 99; (with_reducible refine dmn (spec_MayPut.calls (h := A9.out) (w := _)) ?_); intro x2 hb2 hc; have hw := dsz (n := w.heap.size + 1 + 1 + 1) hb2; have z := dl3 hw))
    go_ret; exact ⟨er_, dfi⟩
   ·replace c10 := Bool.eq_false_iff.mpr c10
    subst c10; rw [if_neg (show ¬ (false = true) by decide)] at H; (try dsimp only at H); obtain rfl := Option.some.inj H
    go_enter Try.func96, Try.ntmps96
    go_wp2_with (first | (go_at_call 25; (with_reducible refine dmn (spec_Try.calls (h := A5.out) (w := _)) ?_); intro x1 hb1 hc; have hw := dsz (n := w.heap.size + 1 + 1 + 1) hb1; have z := dl3 hw) | (go_at_call 32; (with_reducible refine (spec_l1In.calls (h := A7.out) (w := _)).mono ?_); rintro e w' ⟨rfl, ⟨nd_, rfl⟩⟩) | (go_at_call 99; (with_reducible refine dmn (spec_MayPut.calls (h := A9.out) (w := _)) ?_); intro x2 hb2 hc; have hw := dsz (n := w.heap.size + 1 + 1 + 1) hb2; have z := dl3 hw))
    go_ret; exact ⟨er_, dfi⟩
  ·replace c8 := Bool.eq_false_iff.mpr c8
   subst c8; rw [if_neg (show ¬ (false = true) by decide)] at H; (try dsimp only at H); obtain rfl := Option.some.inj H
   go_enter Try.func96, Try.ntmps96
   go_wp2_with (first | (go_at_call 25; (with_reducible refine dmn (spec_Try.calls (h := A5.out) (w := _)) ?_); intro x1 hb1 hc; have hw := dsz (n := w.heap.size + 1 + 1 + 1) hb1; have z := dl3 hw) | (go_at_call 32; (with_reducible refine (spec_l1In.calls (h := A7.out) (w := _)).mono ?_); rintro e w' ⟨rfl, ⟨nd_, rfl⟩⟩))
   go_ret; exact ⟨er_, dfi⟩
 ·rw [if_neg c6] at H
  have c6b0 : (bp == 0) = false := beq_eq_false_iff_ne.mpr c6; have c6b1 : (bp != 0) = true := bne_iff_ne.mpr c6; obtain rfl := Option.some.inj H
  go_enter Try.func96, Try.ntmps96
  go_wp2_with (first | (go_at_call 25; (with_reducible refine dmn (spec_Try.calls (h := A5.out) (w := _)) ?_); intro x1 hb1 hc; have hw := dsz (n := w.heap.size + 1 + 1 + 1) hb1; have z := dl3 hw))
  go_ret; exact ⟨er_, dfi⟩
/-! ### spec_l9Mem: function 90 -/
def spec_l9Mem.f (k : Nat) (l0_0 : List (S29)) (l0_1 : List Bool) (a1_0 : Int) (a1_1 : Int) (a1_2 : Int) (a1_3 : Int) (a1_4 : Int) (a2_0 : Int) (a2_1 : Bool) (a2_2 : Int) (a2_3 : Int) (a2_4 : Int) (a2_5 : Int) (a3_0 : Int) (a3_1 : Bool) (a3_2 : Int) (a3_3 : Int) (a3_4 : Int) (a3_5 : Int) : Option (Int × Bool × Int × Int × Int × Int × Int) := if a1_0 = 10 then ((spec_Read.f k l0_0 l0_1 a2_0 a2_1 a2_2 a2_3 a2_4 a2_5 (wrap64 (a2_0 + a1_4))).bind fun bq => (some (bq.1, bq.2.1, bq.2.2.1, bq.2.2.2.1, bq.2.2.2.2.1, bq.2.2.2.2.2.1, bq.2.2.2.2.2.2))) else (if a1_0 = 11 then ((spec_l8Write.f k l0_0 l0_1 a2_0 a2_1 a2_2 a2_3 a2_4 a2_5 (wrap64 (a2_0 + a1_4)) a3_0 a3_1 a3_2 a3_3 a3_4 a3_5).bind fun bR => (some (0, false, 0, 0, 0, 0, bR))) else (some (0, false, 0, 0, 0, 0, 0)))
theorem spec_l9Mem.mono : ∀ a0 a1 a2 a3 a4 a5 a6 a7 a8 a9 a10 a11 a12 a13 a14 a15 a16 a17 a18 k, LeO (spec_l9Mem.f k a0 a1 a2 a3 a4 a5 a6 a7 a8 a9 a10 a11 a12 a13 a14 a15 a16 a17 a18) (spec_l9Mem.f (k + 1) a0 a1 a2 a3 a4 a5 a6 a7 a8 a9 a10 a11 a12 a13 a14 a15 a16 a17 a18) := by
 intro a0 a1 a2 a3 a4 a5 a6 a7 a8 a9 a10 a11 a12 a13 a14 a15 a16 a17 a18 k
 unfold spec_l9Mem.f
 repeat' first
   | (with_reducible exact spec_Read.mono _ _ _ _ _ _ _ _ _ _)
   | (with_reducible exact spec_l8Write.mono _ _ _ _ _ _ _ _ _ _ _ _ _ _ _ _)
   | (with_reducible exact LeO.refl _)
   | (with_reducible exact LeO.none _)
   | (with_reducible refine LeO.ite ?_ ?_)
   | (with_reducible refine LeO.bind ?_ (fun _ => ?_))
   | exact spec_Read.mono _ _ _ _ _ _ _ _ _ _
   | exact spec_l8Write.mono _ _ _ _ _ _ _ _ _ _ _ _ _ _ _ _
   | exact LeO.none _
   | refine LeO.ite ?_ ?_
   | refine LeO.bind ?_ (fun _ => ?_)
set_option maxHeartbeats 8000000 in
set_option maxRecDepth 100000 in
theorem spec_l9Mem.calls (k : Nat) (A0_0 : Option Addr) (c0_0 : Nat) (l0_0 : List (S29)) (A0_1 : Option Addr) (c0_1 : Nat) (l0_1 : List Bool) (a1_0 : Int) (a1_1 : Int) (a1_2 : Int) (a1_3 : Int) (a1_4 : Int) (a2_0 : Int) (a2_1 : Bool) (a2_2 : Int) (a2_3 : Int) (a2_4 : Int) (a2_5 : Int) (a3_0 : Int) (a3_1 : Bool) (a3_2 : Int) (a3_3 : Int) (a3_4 : Int) (a3_5 : Int) (r1 : Int) (r2 : Bool) (r3 : Int) (r4 : Int) (r5 : Int) (r6 : Int) (r7 : Int) (w : World) (hr0_0 : Kd.C k29 w A0_0 l0_0.length l0_0) (hc0_0 : l0_0.length ≤ c0_0) (hr0_1 : Kd.C Kd.bool w A0_1 l0_1.length l0_1) (hc0_1 : l0_1.length ≤ c0_1) (h : spec_l9Mem.f k l0_0 l0_1 a1_0 a1_1 a1_2 a1_3 a1_4 a2_0 a2_1 a2_2 a2_3 a2_4 a2_5 a3_0 a3_1 a3_2 a3_3 a3_4 a3_5 = some (r1, r2, r3, r4, r5, r6, r7)) :
  Calls Try.prog 90 #[.agg #[.slice A0_0 l0_0.length c0_0, .slice A0_1 l0_1.length c0_1], .agg #[.int .i64 a1_0, .int .i64 a1_1, .int .i64 a1_2, .int .i64 a1_3, .int .i64 a1_4], .agg #[.int .i64 a2_0, .bool a2_1, .int .i64 a2_2, .int .i64 a2_3, .int .i64 a2_4, .int .i64 a2_5], .agg #[.int .i64 a3_0, .bool a3_1, .int .i64 a3_2, .int .i64 a3_3, .int .i64 a3_4, .int .i64 a3_5]] w fun e w' => e = .returned (.tuple #[.agg #[.int .i64 r1, .bool r2, .int .i64 r3, .int .i64 r4, .int .i64 r5, .int .i64 r6], .int .i64 r7]) ∧ Below w.heap.size w w' := by
 have hu58 := Try.underlying58; have hu25 := Try.underlying25; have hu29 := Try.underlying29; have bN := Aside0.mk hr0_0; have bS := Aside0.mk hc0_0; clear hr0_0 hc0_0; have bT := Aside0.mk hr0_1; have bU := Aside0.mk hc0_1; clear hr0_1 hc0_1; have HB := Aside0.mk (Below.refl w.heap.size w); have H : (if a1_0 = 10 then ((spec_Read.f k l0_0 l0_1 a2_0 a2_1 a2_2 a2_3 a2_4 a2_5 (wrap64 (a2_0 + a1_4))).bind fun bq => (some (bq.1, bq.2.1, bq.2.2.1, bq.2.2.2.1, bq.2.2.2.2.1, bq.2.2.2.2.2.1, bq.2.2.2.2.2.2))) else (if a1_0 = 11 then ((spec_l8Write.f k l0_0 l0_1 a2_0 a2_1 a2_2 a2_3 a2_4 a2_5 (wrap64 (a2_0 + a1_4)) a3_0 a3_1 a3_2 a3_3 a3_4 a3_5).bind fun bR => (some (0, false, 0, 0, 0, 0, bR))) else (some (0, false, 0, 0, 0, 0, 0)))) = some (r1, r2, r3, r4, r5, r6, r7) := h; clear h
 by_cases c5 : a1_0 = 10
 ·rw [if_pos c5] at H
  have c5b0 : (a1_0 == 10) = true := beq_iff_eq.mpr c5; have c5b1 : (a1_0 != 10) = false := bne_eq_false_iff_eq.mpr c5; clear c5; replace H := Option.bind_eq_some_iff.mp H; obtain ⟨⟨d1, d2, d3, d4, d5, d6, eu⟩, A60, H⟩ := H; (try dsimp only at H); have A6 := Aside0.mk A60; clear A60; simp only [Option.some.injEq, Prod.mk.injEq] at H; obtain ⟨rfl, rfl, rfl, rfl, rfl, rfl, rfl⟩ := H
  go_enter Try.func90, Try.ntmps90
  go_wp2_with (first | ((with_reducible refine gate_dst (N := 4) rfl ?_); refine bxe 4 #[.slice A0_0 l0_0.length c0_0, .slice A0_1 l0_1.length c0_1] 58 ?_; intro ev hg w7 hbox hb; have ba := hbox; have ew := nge HB hg; have ex := nge HB hg; replace HB := nbs HB hb; clear hb hbox hg) | ((with_reducible refine gate_dst (N := 5) rfl ?_); refine bxe 5 #[.int .i64 a1_0, .int .i64 a1_1, .int .i64 a1_2, .int .i64 a1_3, .int .i64 a1_4] 25 ?_; intro ey hg w8 hbox hb; have bc := hbox; have ez := nge HB hg; have eA := nge HB hg; have b3 := nlt ba hg; have b4 := ngt ba hg; replace ba := nblk ba hb; replace HB := nbs HB hb; clear hb hbox hg) | ((with_reducible refine gate_dst (N := 6) rfl ?_); refine bxe 6 #[.int .i64 a2_0, .bool a2_1, .int .i64 a2_2, .int .i64 a2_3, .int .i64 a2_4, .int .i64 a2_5] 29 ?_; intro eB hg w9 hbox hb; have bh := hbox; have eC := nge HB hg; have eD := nge HB hg; have dz := nlt ba hg; have dA := ngt ba hg; have b5 := nlt bc hg; have b6 := ngt bc hg; replace ba := nblk ba hb; replace bc := nblk bc hb; replace HB := nbs HB hb; clear hb hbox hg) | ((with_reducible refine gate_dst (N := 7) rfl ?_); refine bxe 7 #[.int .i64 a3_0, .bool a3_1, .int .i64 a3_2, .int .i64 a3_3, .int .i64 a3_4, .int .i64 a3_5] 29 ?_; intro eE hg eU hbox hb; have bl := hbox; have eF := nge HB hg; have eG := nge HB hg; have dB := nlt ba hg; have dC := ngt ba hg; have b7 := nlt bc hg; have b8 := ngt bc hg; have dD := nlt bh hg; have dE := ngt bh hg; replace ba := nblk ba hb; replace bc := nblk bc hb; replace bh := nblk bh hb; replace HB := nbs HB hb; clear hb hbox hg) | ((with_reducible refine gate_dst (N := 8) rfl ?_); refine bxe 8 #[.int .i64 0, .bool false, .int .i64 0, .int .i64 0, .int .i64 0, .int .i64 0] 29 ?_; intro b9 hg eV hbox hb; have bn := hbox; have eH := nge HB hg; have eI := nge HB hg; have da := nlt ba hg; have db := ngt ba hg; have dc := nlt bc hg; have dd := ngt bc hg; have de := nlt bh hg; have df := ngt bh hg; have dg := nlt bl hg; have dh := ngt bl hg; replace ba := nblk ba hb; replace bc := nblk bc hb; replace bh := nblk bh hb; replace bl := nblk bl hb; replace HB := nbs HB hb; clear hb hbox hg; have jM := b4.out; have jN := b3.out; have jO := b5.out; have jP := b6.out; have eW := b7.out; have eX := b8.out; have el := dc.out; have em := dd.out; obtain ⟨eY, eZ, e0, e1, e2⟩ := c5e bc; obtain ⟨e3, e4, e5, e6, e7⟩ := z5_ bc; have jQ := dz.out; have jR := dA.out; have e8 := dB.out; have e9 := dC.out; have jS := da.out; have jT := db.out; obtain ⟨ga, gb⟩ := c2e ba; obtain ⟨gc, gd⟩ := z2_ ba; have jU := dD.out; have jV := dE.out; have jW := de.out; have jX := df.out; obtain ⟨jY, jZ, j2, j3, j4, j5⟩ := c6e bh; obtain ⟨j6, j7, j8, j9, ka, kb⟩ := z6_ bh) | ((with_reducible refine gate_callee (f := 95) rfl ?_); refine goesM (some 24) rfl rfl Try.func95 (by kernel_rfl) rfl #[.agg #[.slice A0_0 l0_0.length c0_0, .slice A0_1 l0_1.length c0_1], .agg #[.int .i64 a2_0, .bool a2_1, .int .i64 a2_2, .int .i64 a2_3, .int .i64 a2_4, .int .i64 a2_5], .int .i64 (wrap64 (a2_0 + a1_4))] rfl ?_; (with_reducible refine (spec_Read.calls k _ _ l0_0 _ _ l0_1 a2_0 a2_1 a2_2 a2_3 a2_4 a2_5 (wrap64 (a2_0 + a1_4)) d1 d2 d3 d4 d5 d6 eu _ ?side1 ?side2 ?side3 ?side4 A6.out).mono ?_); (case side1 => exact nCb bN HB); (case side2 => exact bS.out); (case side3 => exact nCb bT HB); (case side4 => exact bU.out); rintro e gf ⟨rfl, hb⟩; refine ⟨_, rfl, ?_⟩; replace ba := nblk ba hb; replace bc := nblk bc hb; replace bh := nblk bh hb; replace bl := nblk bl hb; replace bn := nblk bn hb; replace HB := nbs HB hb; (try clear hb)) | ((with_reducible refine gate_dst (N := 10) rfl ?_); refine bxe 10 #[.int .i64 0, .bool false, .int .i64 0, .int .i64 0, .int .i64 0, .int .i64 0] 29 ?_; intro kc hg et hbox hb; have eJ := hbox; have kd := nge HB hg; have ke := nge HB hg; have gQ := nlt ba hg; have gR := ngt ba hg; have gS := nlt bc hg; have gT := ngt bc hg; have gU := nlt bh hg; have gV := ngt bh hg; have gW := nlt bl hg; have gX := ngt bl hg; have eK := nlt bn hg; have gY := ngt bn hg; replace ba := nblk ba hb; replace bc := nblk bc hb; replace bh := nblk bh hb; replace bl := nblk bl hb; replace bn := nblk bn hb; replace HB := nbs HB hb; clear hb hbox hg; have gg := gR.out; have gh := gQ.out; have gi := gT.out; have gj := gS.out; have kf := gV.out; have kg := gU.out; have kh := gX.out; have ki := gW.out; have gl := gY.out; have gm := eK.out; obtain ⟨gn, gp, kj, kk, kl, km⟩ := c6e eJ; obtain ⟨gq, gr, kn, ko, kp, kr⟩ := z6_ eJ; have ks := dh.out; have kt := dg.out; obtain ⟨gs, gt, gu, gv, gw, gx⟩ := c6e bn; obtain ⟨gy, gz, gA, gB, gC, gD⟩ := z6_ bn))
  refine bodyPost_ret (results_ct rfl _ _ b9 29 #[.int .i64 d1, .bool d2, .int .i64 d3, .int .i64 d4, .int .i64 d5, .int .i64 d6] (0, 0) _ rfl (p6 bn (k6_ eK.out (nb bn))) Try.underlying29 rfl (by kernel_rfl)) rfl ?_; exact ⟨er_, nbe HB⟩
 ·rw [if_neg c5] at H
  have c5b0 : (a1_0 == 10) = false := beq_eq_false_iff_ne.mpr c5; have c5b1 : (a1_0 != 10) = true := bne_iff_ne.mpr c5
  by_cases c34 : a1_0 = 11
  ·rw [if_pos c34] at H
   have c34b0 : (a1_0 == 11) = true := beq_iff_eq.mpr c34; have c34b1 : (a1_0 != 11) = false := bne_eq_false_iff_eq.mpr c34; clear c34; replace H := Option.bind_eq_some_iff.mp H; obtain ⟨bR, A350, H⟩ := H; (try dsimp only at H); have A35 := Aside0.mk A350; clear A350; simp only [Option.some.injEq, Prod.mk.injEq] at H; obtain ⟨rfl, rfl, rfl, rfl, rfl, rfl, rfl⟩ := H
   go_enter Try.func90, Try.ntmps90
   go_wp2_with (first | ((with_reducible refine gate_dst (N := 4) rfl ?_); refine bxe 4 #[.slice A0_0 l0_0.length c0_0, .slice A0_1 l0_1.length c0_1] 58 ?_; intro ev hg gE hbox hb; have ba := hbox; have ew := nge HB hg; have ex := nge HB hg; replace HB := nbs HB hb; clear hb hbox hg) | ((with_reducible refine gate_dst (N := 5) rfl ?_); refine bxe 5 #[.int .i64 a1_0, .int .i64 a1_1, .int .i64 a1_2, .int .i64 a1_3, .int .i64 a1_4] 25 ?_; intro ey hg gF hbox hb; have bc := hbox; have ez := nge HB hg; have eA := nge HB hg; have b3 := nlt ba hg; have b4 := ngt ba hg; replace ba := nblk ba hb; replace HB := nbs HB hb; clear hb hbox hg) | ((with_reducible refine gate_dst (N := 6) rfl ?_); refine bxe 6 #[.int .i64 a2_0, .bool a2_1, .int .i64 a2_2, .int .i64 a2_3, .int .i64 a2_4, .int .i64 a2_5] 29 ?_; intro eB hg ku hbox hb; have bh := hbox; have eC := nge HB hg; have eD := nge HB hg; have dz := nlt ba hg; have dA := ngt ba hg; have b5 := nlt bc hg; have b6 := ngt bc hg; replace ba := nblk ba hb; replace bc := nblk bc hb; replace HB := nbs HB hb; clear hb hbox hg) | ((with_reducible refine gate_dst (N := 7) rfl ?_); refine bxe 7 #[.int .i64 a3_0, .bool a3_1, .int .i64 a3_2, .int .i64 a3_3, .int .i64 a3_4, .int .i64 a3_5] 29 ?_; intro eE hg kv hbox hb; have bl := hbox; have eF := nge HB hg; have eG := nge HB hg; have dB := nlt ba hg; have dC := ngt ba hg; have b7 := nlt bc hg; have b8 := ngt bc hg; have dD := nlt bh hg; have dE := ngt bh hg; replace ba := nblk ba hb; replace bc := nblk bc hb; replace bh := nblk bh hb; replace HB := nbs HB hb; clear hb hbox hg) | ((with_reducible refine gate_dst (N := 8) rfl ?_); refine bxe 8 #[.int .i64 0, .bool false, .int .i64 0, .int .i64 0, .int .i64 0, .int .i64 0] 29 ?_; intro b9 hg kw hbox hb; have bn := hbox; have eH := nge HB hg; have eI := nge HB hg; have da := nlt ba hg; have db := ngt ba hg; have dc := nlt bc hg; have dd := ngt bc hg; have de := nlt bh hg; have df := ngt bh hg; have dg := nlt bl hg; have dh := ngt bl hg; replace ba := nblk ba hb; replace bc := nblk bc hb; replace bh := nblk bh hb; replace bl := nblk bl hb; replace HB := nbs HB hb; clear hb hbox hg; have kx := b4.out; have ky := b3.out; have gG := b5.out; have gH := b6.out; have kz := b7.out; have kA := b8.out; have kB := dc.out; have kC := dd.out; obtain ⟨kD, kE, kF, kG, kH⟩ := c5e bc; obtain ⟨kI, kJ, kK, kL, kM⟩ := z5_ bc; have kN := dz.out; have kO := dA.out; have gI := dB.out; have gJ := dC.out; have gK := da.out; have gL := db.out; obtain ⟨gM, gN⟩ := c2e ba; obtain ⟨gO, gP⟩ := z2_ ba; have kP := dD.out; have kQ := dE.out; have kR := de.out; have kS := df.out; obtain ⟨kT, kU, kV, kW, kX, kY⟩ := c6e bh; obtain ⟨kZ, k0, k1, k2, k3, k4⟩ := z6_ bh; have k5 := dg.out; have k6 := dh.out; obtain ⟨k7, k8, k9, ma, mb, mc⟩ := c6e bl; obtain ⟨md, mf, mg, mh, mi, mj⟩ := z6_ bl) | ((with_reducible refine gate_callee (f := 96) rfl ?_); refine goesM (some 40) rfl rfl Try.func96 (by kernel_rfl) rfl #[.agg #[.slice A0_0 l0_0.length c0_0, .slice A0_1 l0_1.length c0_1], .agg #[.int .i64 a2_0, .bool a2_1, .int .i64 a2_2, .int .i64 a2_3, .int .i64 a2_4, .int .i64 a2_5], .int .i64 (wrap64 (a2_0 + a1_4)), .agg #[.int .i64 a3_0, .bool a3_1, .int .i64 a3_2, .int .i64 a3_3, .int .i64 a3_4, .int .i64 a3_5]] rfl ?_; (with_reducible refine (spec_l8Write.calls k _ _ l0_0 _ _ l0_1 a2_0 a2_1 a2_2 a2_3 a2_4 a2_5 (wrap64 (a2_0 + a1_4)) a3_0 a3_1 a3_2 a3_3 a3_4 a3_5 bR _ ?side1 ?side2 ?side3 ?side4 A35.out).mono ?_); (case side1 => exact nCb bN HB); (case side2 => exact bS.out); (case side3 => exact nCb bT HB); (case side4 => exact bU.out); rintro e ml ⟨rfl, hb⟩; refine ⟨_, rfl, ?_⟩; replace ba := nblk ba hb; replace bc := nblk bc hb; replace bh := nblk bh hb; replace bl := nblk bl hb; replace bn := nblk bn hb; replace HB := nbs HB hb; (try clear hb); obtain ⟨mm, mn, mo, mq, mr, ms⟩ := c6e bn; obtain ⟨mt, mu, mv, mw, mx, mz⟩ := z6_ bn))
   refine bodyPost_ret (results_ct rfl _ _ b9 29 #[.int .i64 0, .bool false, .int .i64 0, .int .i64 0, .int .i64 0, .int .i64 0] (0, 0) _ rfl (q6 bn) Try.underlying29 rfl (by kernel_rfl)) rfl ?_; exact ⟨er_, nbe HB⟩
  ·rw [if_neg c34] at H
   have c34b0 : (a1_0 == 11) = false := beq_eq_false_iff_ne.mpr c34; have c34b1 : (a1_0 != 11) = true := bne_iff_ne.mpr c34; simp only [Option.some.injEq, Prod.mk.injEq] at H; obtain ⟨rfl, rfl, rfl, rfl, rfl, rfl, rfl⟩ := H
   go_enter Try.func90, Try.ntmps90
   go_wp2
   refine bodyPost_ret (drct rfl _ _ rfl (by go_simp; rfl)) rfl ?_; exact ⟨rfl, dfi⟩
end Go.Proofs.Ytpcladboobfkhaa.PFnWork
