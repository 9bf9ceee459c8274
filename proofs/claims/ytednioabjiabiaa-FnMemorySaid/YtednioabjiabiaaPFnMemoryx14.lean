-- Written by a program of this session (wip/patch.py turns a copy of the kit's print): the functions that the law reaches, and their walks.
import Derived.Test.YtednioabjiabiaaPFnMemoryx0
import Derived.Test.YtednioabjiabiaaPFnMemoryx3
import Derived.Test.YtednioabjiabiaaPFnMemoryx13
import Derived.Test.YtednioabjiabiaaCFnMemory
namespace Go.Proofs.Ytednioabjiabiaa.PFnMemory
open Go.RowKit Go.Proofs.YtednioabjiabiaaW.PrintWords Go.Proofs.YtednioabjiabiaaW.PrintLast Go.Proofs.YtednioabjiabiaaW.PrintMore Go.Proofs.YtednioabjiabiaaW.Mine
attribute [local go_sem] max2_int min2_int max_two min_two max_three min_three max_four min_four   -- for this text's walks alone
set_option linter.unusedVariables false
set_option linter.unusedSimpArgs false

/-! ### spec_Read: function 25 -/
mutual
def spec_Read.j0 : Nat → Int → Int → Bool → List (S36) → List Bool → Int → Bool → Int → Int → Int → Int → Option (Int × Bool × Int × Int × Int × Int × Int)
 | 0, _, _, _, _, _, _, _, _, _, _, _ => none
 | k + 1, x2, x8, dp, bp, bE, bF, bG, bH, bI, bJ, bK => if dp = true then (spec_Read.j1 k x2 4 bp bE bF bG bH bI bJ bK) else (spec_Read.j1 k x2 x8 bp bE bF bG bH bI bJ bK)
def spec_Read.j1 : Nat → Int → Int → List (S36) → List Bool → Int → Bool → Int → Int → Int → Int → Option (Int × Bool × Int × Int × Int × Int × Int)
 | 0, _, _, _, _, _, _, _, _, _, _ => none
 | k + 1, x2, x8, bp, bE, bF, bG, bH, bI, bJ, bK => if x8 = 0 then (if 0 ≤ x2 then (if x2 < (bp.length : Int) then ((spec_Taken.f bF bG bH bI bJ bK ((rd_T36 bp x2).f0) ((rd_T36 bp x2).f1) ((rd_T36 bp x2).f2.f0) ((rd_T36 bp x2).f2.f1) ((rd_T36 bp x2).f2.f2) ((rd_T36 bp x2).f2.f3)).bind fun bu => ((spec_Filter.f bp bE bu.1 bu.2.1 bu.2.2.1 bu.2.2.2.1 bu.2.2.2.2.1 bu.2.2.2.2.2).bind fun bh => (some (bh.1, bh.2.1, bh.2.2.1, bh.2.2.2.1, bh.2.2.2.2.1, bh.2.2.2.2.2, 0)))) else (none)) else (none)) else (some (0, false, 0, 0, 0, 0, x8))
end
def spec_Read.f (k : Nat) (l0_0 : List (S36)) (l0_1 : List Bool) (a1_0 : Int) (a1_1 : Bool) (a1_2 : Int) (a1_3 : Int) (a1_4 : Int) (a1_5 : Int) (a2 : Int) : Option (Int × Bool × Int × Int × Int × Int × Int) := (spec_Try.f k a1_0 a1_1 a1_2 a1_3 a1_4 a1_5 a2 1).bind fun bg => (if bg = 0 then ((spec_l1In.f a2 0 (wrap64 ((l0_0.length : Int) - 1))).bind fun bq => (spec_Read.j0 k a2 bg (!bq) l0_0 l0_1 a1_0 a1_1 a1_2 a1_3 a1_4 a1_5)) else (spec_Read.j0 k a2 bg false l0_0 l0_1 a1_0 a1_1 a1_2 a1_3 a1_4 a1_5))
theorem spec_Read.mono_l : ∀ k, (∀ y0 y1 y2 y3 y4 y5 y6 y7 y8 y9 bT, LeO (spec_Read.j0 k y0 y1 y2 y3 y4 y5 y6 y7 y8 y9 bT) (spec_Read.j0 (k + 1) y0 y1 y2 y3 y4 y5 y6 y7 y8 y9 bT)) ∧ (∀ y0 y1 y2 y3 y4 y5 y6 y7 y8 y9, LeO (spec_Read.j1 k y0 y1 y2 y3 y4 y5 y6 y7 y8 y9) (spec_Read.j1 (k + 1) y0 y1 y2 y3 y4 y5 y6 y7 y8 y9))
 | 0 => ⟨fun _ _ _ _ _ _ _ _ _ _ _ r h => by simp [spec_Read.j0] at h, fun _ _ _ _ _ _ _ _ _ _ r h => by simp [spec_Read.j1] at h⟩
 | k + 1 => by
  obtain ⟨ih0, ih1⟩ := spec_Read.mono_l k; refine ⟨?_, ?_⟩
  ·intro y0 y1 y2 y3 y4 y5 y6 y7 y8 y9 bT
   unfold spec_Read.j0
   repeat' first
   | (with_reducible exact ih0 _ _ _ _ _ _ _ _ _ _ _)
   | (with_reducible exact ih1 _ _ _ _ _ _ _ _ _ _)
   | (with_reducible exact spec_Try.mono _ _ _ _ _ _ _ _ _)
   | (with_reducible exact LeO.refl _)
   | (with_reducible exact LeO.none _)
   | (with_reducible refine LeO.ite ?_ ?_)
   | (with_reducible refine LeO.bind ?_ (fun _ => ?_))
   | exact ih0 _ _ _ _ _ _ _ _ _ _ _
   | exact ih1 _ _ _ _ _ _ _ _ _ _
   | exact spec_Try.mono _ _ _ _ _ _ _ _ _
   | exact LeO.none _
   | refine LeO.ite ?_ ?_
   | refine LeO.bind ?_ (fun _ => ?_)
  ·intro y0 y1 y2 y3 y4 y5 y6 y7 y8 y9
   unfold spec_Read.j1
   repeat' first
   | (with_reducible exact ih0 _ _ _ _ _ _ _ _ _ _ _)
   | (with_reducible exact ih1 _ _ _ _ _ _ _ _ _ _)
   | (with_reducible exact spec_Try.mono _ _ _ _ _ _ _ _ _)
   | (with_reducible exact LeO.refl _)
   | (with_reducible exact LeO.none _)
   | (with_reducible refine LeO.ite ?_ ?_)
   | (with_reducible refine LeO.bind ?_ (fun _ => ?_))
   | exact ih0 _ _ _ _ _ _ _ _ _ _ _
   | exact ih1 _ _ _ _ _ _ _ _ _ _
   | exact spec_Try.mono _ _ _ _ _ _ _ _ _
   | exact LeO.none _
   | refine LeO.ite ?_ ?_
   | refine LeO.bind ?_ (fun _ => ?_)
theorem spec_Read.mono : ∀ a0 a1 a2 a3 a4 a5 a6 a7 a8 k, LeO (spec_Read.f k a0 a1 a2 a3 a4 a5 a6 a7 a8) (spec_Read.f (k + 1) a0 a1 a2 a3 a4 a5 a6 a7 a8) := by
 intro a0 a1 a2 a3 a4 a5 a6 a7 a8 k; obtain ⟨ih0, ih1⟩ := spec_Read.mono_l k
 unfold spec_Read.f
 repeat' first
   | (with_reducible exact ih0 _ _ _ _ _ _ _ _ _ _ _)
   | (with_reducible exact ih1 _ _ _ _ _ _ _ _ _ _)
   | (with_reducible exact spec_Try.mono _ _ _ _ _ _ _ _ _)
   | (with_reducible exact LeO.refl _)
   | (with_reducible exact LeO.none _)
   | (with_reducible refine LeO.ite ?_ ?_)
   | (with_reducible refine LeO.bind ?_ (fun _ => ?_))
   | exact ih0 _ _ _ _ _ _ _ _ _ _ _
   | exact ih1 _ _ _ _ _ _ _ _ _ _
   | exact spec_Try.mono _ _ _ _ _ _ _ _ _
   | exact LeO.none _
   | refine LeO.ite ?_ ?_
   | refine LeO.bind ?_ (fun _ => ?_)
def spec_Read.T6 : Bool × List (List Nat × List Nat) := (true, [([], []), ([], []), ([], []), ([2], [2]), ([], []), ([3, 4], [3, 4]), ([5], [5]), ([1, 6], [1, 6]), ([0, 7, 7], [0, 7]), ([8, 8, 0, 1, 2, 3, 4, 5, 6, 7, 8], [8]), ([9, 0, 1, 2, 3, 4, 5, 6, 7, 8, 9], [])])
def spec_Read.B6 : List Nat := [0, 0, 0, 4, 0, 28, 60, 126, 255, 511, 1023]
theorem spec_Read.tab6 : rtab .any (opsOf Try.f25 6) = spec_Read.T6 := by kernel_rfl
theorem spec_Read.bits6 : waitsOk spec_Read.T6.2 spec_Read.B6 = true := by kernel_rfl
set_option maxHeartbeats 8000000 in
set_option maxRecDepth 100000 in
theorem spec_Read.calls (k : Nat) (A0_0 : Option Addr) (c0_0 : Nat) (l0_0 : List (S36)) (A0_1 : Option Addr) (c0_1 : Nat) (l0_1 : List Bool) (a1_0 : Int) (a1_1 : Bool) (a1_2 : Int) (a1_3 : Int) (a1_4 : Int) (a1_5 : Int) (a2 : Int) (r1 : Int) (r2 : Bool) (r3 : Int) (r4 : Int) (r5 : Int) (r6 : Int) (r7 : Int) (w : World) (hr0_0 : Kd.C k36 w A0_0 l0_0.length l0_0) (hc0_0 : l0_0.length ≤ c0_0) (hr0_1 : Kd.C Kd.bool w A0_1 l0_1.length l0_1) (hc0_1 : l0_1.length ≤ c0_1) (h : spec_Read.f k l0_0 l0_1 a1_0 a1_1 a1_2 a1_3 a1_4 a1_5 a2 = some (r1, r2, r3, r4, r5, r6, r7)) :
  Calls Try.prog 25 #[.agg #[.slice A0_0 l0_0.length c0_0, .slice A0_1 l0_1.length c0_1], .agg #[.int .i64 a1_0, .bool a1_1, .int .i64 a1_2, .int .i64 a1_3, .int .i64 a1_4, .int .i64 a1_5], .int .i64 a2] w fun e w' => e = .returned (.tuple #[.agg #[.int .i64 r1, .bool r2, .int .i64 r3, .int .i64 r4, .int .i64 r5, .int .i64 r6], .int .i64 r7]) ∧ Below w.heap.size w w' := by
 have hu27 := Try.underlying27; have hu36 := Try.underlying36; have b4 := Aside0.mk hr0_0; have dq := Aside0.mk hc0_0; clear hr0_0 hc0_0; have dr := Aside0.mk hr0_1; have dt := Aside0.mk hc0_1; clear hr0_1 hc0_1; have HB := Aside0.mk (Below.refl w.heap.size w); have H : ((spec_Try.f k a1_0 a1_1 a1_2 a1_3 a1_4 a1_5 a2 1).bind fun bg => (if bg = 0 then ((spec_l1In.f a2 0 (wrap64 ((l0_0.length : Int) - 1))).bind fun bq => (spec_Read.j0 k a2 bg (!bq) l0_0 l0_1 a1_0 a1_1 a1_2 a1_3 a1_4 a1_5)) else (spec_Read.j0 k a2 bg false l0_0 l0_1 a1_0 a1_1 a1_2 a1_3 a1_4 a1_5))) = some (r1, r2, r3, r4, r5, r6, r7) := h; clear h; replace H := Option.bind_eq_some_iff.mp H; obtain ⟨bg, A40, H⟩ := H; replace H : (if bg = 0 then ((spec_l1In.f a2 0 (wrap64 ((l0_0.length : Int) - 1))).bind fun bq => (spec_Read.j0 k a2 bg (!bq) l0_0 l0_1 a1_0 a1_1 a1_2 a1_3 a1_4 a1_5)) else (spec_Read.j0 k a2 bg false l0_0 l0_1 a1_0 a1_1 a1_2 a1_3 a1_4 a1_5)) = some (r1, r2, r3, r4, r5, r6, r7) := H; have A4 := Aside0.mk A40; clear A40; have bU := Aside0.mk H; clear H
 go_enter Try.func25, Try.ntmps25
 go_upto_region 2 with (first | ((with_reducible refine gate_dst (N := 3) rfl ?_); (try (refine gate_guard (by rfl) ?_; dsimp only)); refine bxe 3 #[.slice A0_0 l0_0.length c0_0, .slice A0_1 l0_1.length c0_1] 27 ?_; intro bL hg w6 hbox hb; have bd := hbox; have dv := nge HB hg; have dw := nge HB hg; replace HB := nbs HB hb; clear hb hbox hg) | ((with_reducible refine gate_dst (N := 4) rfl ?_); (try (refine gate_guard (by rfl) ?_; dsimp only)); refine bxe 4 #[.int .i64 a1_0, .bool a1_1, .int .i64 a1_2, .int .i64 a1_3, .int .i64 a1_4, .int .i64 a1_5] 36 ?_; intro bs hg w7 hbox hb; have bb := hbox; have dx := nge HB hg; have dy := nge HB hg; have b5 := nlt bd hg; have b6 := ngt bd hg; replace bd := nblk bd hb; replace HB := nbs HB hb; clear hb hbox hg) | ((with_reducible refine gate_dst (N := 6) rfl ?_); (try (refine gate_guard (by rfl) ?_; dsimp only)); refine bxe 6 #[.int .i64 0, .bool false, .int .i64 0, .int .i64 0, .int .i64 0, .int .i64 0] 36 ?_; intro ba hg w8 hbox hb; have bf := hbox; have bc := nge HB hg; have dz := nge HB hg; have bw := nlt bd hg; have bV := ngt bd hg; have br := nlt bb hg; have bW := ngt bb hg; replace bd := nblk bd hb; replace bb := nblk bb hb; replace HB := nbs HB hb; clear hb hbox hg; have dA := b6.out; have dB := b5.out; have dC := br.out; have dD := bW.out; obtain ⟨b7, b8, b9, da, db, dc⟩ := c6e bb; obtain ⟨dd, de, df, dg, dh, di⟩ := z6_ bb) | ((with_reducible refine gate_callee (f := 48) rfl ?_); refine goesM (some 11) rfl rfl Try.func48 (by kernel_rfl) rfl #[.agg #[.int .i64 a1_0, .bool a1_1, .int .i64 a1_2, .int .i64 a1_3, .int .i64 a1_4, .int .i64 a1_5], .int .i64 a2, .int .i64 1] rfl ?_; (with_reducible refine (spec_Try.calls k a1_0 a1_1 a1_2 a1_3 a1_4 a1_5 a2 1 bg _ A4.out).mono ?_); rintro e dE ⟨rfl, hb⟩; refine ⟨_, rfl, ?_⟩; replace bd := nblk bd hb; replace bb := nblk bb hb; replace bf := nblk bf hb; replace HB := nbs HB hb; (try clear hb)))
 (try simp only [Act.put, List.setIfInBounds_toArray, List.set_cons_zero, List.set_cons_succ])
 go_cut [22] (fun du wc => ∃ (kq : Nat) (bM : Bool), du = .bool bM ∧ Aside0 (spec_Read.j0 kq a2 bg bM l0_0 l0_1 a1_0 a1_1 a1_2 a1_3 a1_4 a1_5 = some (r1, r2, r3, r4, r5, r6, r7)) ∧ Aside0 (kq ≤ k) ∧ Aside0 (wc.heap[bL]? = some (.cells #[(.slice A0_0 l0_0.length c0_0), (.slice A0_1 l0_1.length c0_1)] 27 (0, 0))) ∧ Aside0 (wc.heap[bs]? = some (.cells #[.int .i64 a1_0, .bool a1_1, .int .i64 a1_2, .int .i64 a1_3, .int .i64 a1_4, .int .i64 a1_5] 36 (0, 0))) ∧ Aside0 (wc.heap[ba]? = some (.cells #[.int .i64 0, .bool false, .int .i64 0, .int .i64 0, .int .i64 0, .int .i64 0] 36 (0, 0))) ∧ Aside0 (Below w.heap.size w wc))
 case first =>
  have H := bU.out; clear bU
  by_cases c13 : bg = 0
  ·rw [if_pos c13] at H
   have c13b0 : (bg == 0) = true := beq_iff_eq.mpr c13; have c13b1 : (bg != 0) = false := bne_eq_false_iff_eq.mpr c13; clear c13; (first | rw [c13b0] | (simp only [i64_w, i32_w]; rw [c13b0]) | skip); replace H := Option.bind_eq_some_iff.mp H; obtain ⟨bq, A140, H⟩ := H; replace H : (spec_Read.j0 k a2 bg (!bq) l0_0 l0_1 a1_0 a1_1 a1_2 a1_3 a1_4 a1_5) = some (r1, r2, r3, r4, r5, r6, r7) := H; have A14 := Aside0.mk A140; clear A140; have H' := Aside0.mk H; clear H; have dF := b5.out; have dG := b6.out; have dH := bw.out; have dI := bV.out; obtain ⟨dj, dk⟩ := c2e bd; obtain ⟨dl, dm⟩ := z2_ bd
   go_wp2_with (first | (go_at_call 29; (with_reducible refine (spec_l1In.calls a2 0 (wrap64 ((l0_0.length : Int) - 1)) bq _ A14.out).mono ?_); rintro e w' ⟨rfl, ⟨nd, rfl⟩⟩))
   go_meet
   case rel => exact ⟨_, (!bq), (by first | rfl | (simp; done) | (simp [*]; done)), H', ⟨by first | omega | exact Nat.le_refl _⟩, ⟨nb bd⟩, ⟨nb bb⟩, ⟨nb bf⟩, ⟨nbe HB⟩⟩
  ·rw [if_neg c13] at H
   have c13b0 : (bg == 0) = false := beq_eq_false_iff_ne.mpr c13; have c13b1 : (bg != 0) = true := bne_iff_ne.mpr c13; (first | rw [c13b0] | (simp only [i64_w, i32_w]; rw [c13b0]) | skip); have H' := Aside0.mk H; clear H; go_wp2
   go_meet
   case rel => exact ⟨_, (false), (by first | rfl | (simp; done) | (simp [*]; done)), H', ⟨by first | omega | exact Nat.le_refl _⟩, ⟨nb bd⟩, ⟨nb bb⟩, ⟨nb bf⟩, ⟨nbe HB⟩⟩
 case rest =>
  clear bU; try clear c1
  try clear c2
  try clear p2
  try clear c4
  try clear p6
  try clear c9
  try clear c10
  try clear c13
  try clear c13b0
  try clear c13b1
  try clear c15
  try clear c16
  try clear b7
  try clear b8
  try clear b9
  try clear da
  try clear db
  try clear dc
  try clear dj
  try clear dk
  try clear dd
  try clear de
  try clear df
  try clear dg
  try clear dh
  try clear di
  try clear dl
  try clear dm
  obtain ⟨kq, bM, rfl, HA, dn, bd, bb, bf, HB⟩ := hcut
  cases kq with
  | zero => exact absurd HA.out (by simp [spec_Read.j0])
  | succ kj4 =>
   have H := HA.out; clear HA; simp only [spec_Read.j0] at H; have bX := Aside0.mk H; clear H
   go_upto_if 22 with (fail)
   go_cut [8] (fun v8 wc => ∃ (kq : Nat) (bt : Int), v8 = .int .i64 bt ∧ Aside0 (spec_Read.j1 kq a2 bt l0_0 l0_1 a1_0 a1_1 a1_2 a1_3 a1_4 a1_5 = some (r1, r2, r3, r4, r5, r6, r7)) ∧ Aside0 (kq ≤ kj4) ∧ Aside0 (wc.heap[bL]? = some (.cells #[(.slice A0_0 l0_0.length c0_0), (.slice A0_1 l0_1.length c0_1)] 27 (0, 0))) ∧ Aside0 (wc.heap[bs]? = some (.cells #[.int .i64 a1_0, .bool a1_1, .int .i64 a1_2, .int .i64 a1_3, .int .i64 a1_4, .int .i64 a1_5] 36 (0, 0))) ∧ Aside0 (wc.heap[ba]? = some (.cells #[.int .i64 0, .bool false, .int .i64 0, .int .i64 0, .int .i64 0, .int .i64 0] 36 (0, 0))) ∧ Aside0 (Below w.heap.size w wc))
   case first =>
    have H := bX.out; clear bX
    by_cases c19 : bM = true
    ·subst c19
     have H1 : (spec_Read.j1 kj4 a2 4 l0_0 l0_1 a1_0 a1_1 a1_2 a1_3 a1_4 a1_5) = some (r1, r2, r3, r4, r5, r6, r7) := by rw [if_pos rfl] at H; exact H
     clear H; have H := H1; clear H1; have H' := Aside0.mk H; clear H; go_wp2
     go_meet
     case rel => exact ⟨_, (4), (by first | rfl | (simp; done) | (simp [*]; done)), H', ⟨by have := dn.out; first | omega | exact Nat.le_refl _⟩, ⟨nb bd⟩, ⟨nb bb⟩, ⟨nb bf⟩, ⟨nbe HB⟩⟩
    ·replace c19 := Bool.eq_false_iff.mpr c19
     subst c19; have H1 : (spec_Read.j1 kj4 a2 bg l0_0 l0_1 a1_0 a1_1 a1_2 a1_3 a1_4 a1_5) = some (r1, r2, r3, r4, r5, r6, r7) := by rw [if_neg (show ¬ (false = true) by decide)] at H; exact H
     clear H; have H := H1; clear H1; have H' := Aside0.mk H; clear H; go_wp2
     go_meet
     case rel => exact ⟨_, (bg), (by first | rfl | (simp; done) | (simp [*]; done)), H', ⟨by have := dn.out; first | omega | exact Nat.le_refl _⟩, ⟨nb bd⟩, ⟨nb bb⟩, ⟨nb bf⟩, ⟨nbe HB⟩⟩
   case rest =>
    clear bX; try clear c1
    try clear c2
    try clear p2
    try clear c4
    try clear p6
    try clear c9
    try clear c10
    try clear c13
    try clear c13b0
    try clear c13b1
    try clear c15
    try clear c16
    try clear c19
    try clear b7
    try clear b8
    try clear b9
    try clear da
    try clear db
    try clear dc
    try clear dj
    try clear dk
    try clear dd
    try clear de
    try clear df
    try clear dg
    try clear dh
    try clear di
    try clear dl
    try clear dm
    try clear p2
    try clear p6
    obtain ⟨kq, bt, rfl, HA, dJ, bd, bb, bf, HB⟩ := hcut
    cases kq with
    | zero => exact absurd HA.out (by simp [spec_Read.j1])
    | succ kj17 =>
     have H := HA.out; clear HA; simp only [spec_Read.j1] at H
     by_cases c20 : bt = 0
     ·rw [if_pos c20] at H
      have c20b0 : (bt == 0) = true := beq_iff_eq.mpr c20; have c20b1 : (bt != 0) = false := bne_eq_false_iff_eq.mpr c20; clear c20
      by_cases c21 : 0 ≤ a2
      ·rw [if_pos c21] at H
       have c21b0 : decide (0 ≤ a2) = true := decide_eq_true c21; clear c21
       by_cases c22 : a2 < (l0_0.length : Int)
       ·rw [if_pos c22] at H
        have c22b0 : decide (a2 < (l0_0.length : Int)) = true := decide_eq_true c22; clear c22; replace H := Option.bind_eq_some_iff.mp H; obtain ⟨⟨bN, bO, bP, bQ, bR, bS⟩, A230, H⟩ := H; replace H : ((spec_Filter.f l0_0 l0_1 bN bO bP bQ bR bS).bind fun bh => (some (bh.1, bh.2.1, bh.2.2.1, bh.2.2.2.1, bh.2.2.2.2.1, bh.2.2.2.2.2, 0))) = some (r1, r2, r3, r4, r5, r6, r7) := H; have A23 := Aside0.mk A230; clear A230; replace H := Option.bind_eq_some_iff.mp H; obtain ⟨⟨bY, bZ, b0, b1, b2, b3⟩, A240, H⟩ := H; replace H : (some (bY, bZ, b0, b1, b2, b3, 0)) = some (r1, r2, r3, r4, r5, r6, r7) := H; have A24 := Aside0.mk A240; clear A240; simp only [Option.some.injEq, Prod.mk.injEq] at H; obtain ⟨rfl, rfl, rfl, rfl, rfl, rfl, rfl⟩ := H
        try go_wp2
        replace bd := Aside0.mk (blk_drew bd.out); replace bb := Aside0.mk (blk_drew bb.out); replace bf := Aside0.mk (blk_drew bf.out); replace HB := Aside0.mk (below_drew1 HB.out); have p633 : 0 ≤ (a2 : Int) := of_decide_eq_true (by first | (with_reducible assumption) | assumption); have q633 : a2 < (l0_0.length : Int) := of_decide_eq_true (by first | (with_reducible assumption) | assumption); obtain ⟨bi, e633, bx, bz, bA, bB, bC, bD⟩ := at_T36 b4.out a2 p633 q633; have bj := bD; have bk := bC; have bl := bB; have bm := bA; have bn := bz; have bo := bx
        cases e633
        replace bx := (HB.out.cell (World.block_lt_of_cell? w _ bx)).trans bx; replace bz := (HB.out.cell (World.block_lt_of_cell? w _ bz)).trans bz; replace bA := (HB.out.cell (World.block_lt_of_cell? w _ bA)).trans bA; replace bB := (HB.out.cell (World.block_lt_of_cell? w _ bB)).trans bB; replace bC := (HB.out.cell (World.block_lt_of_cell? w _ bC)).trans bC; replace bD := (HB.out.cell (World.block_lt_of_cell? w _ bD)).trans bD; replace p633 := eq_true p633; replace q633 := eq_true q633; refine start_ (n := 11) (S := fun w' => w'.cell? ⟨bL, 0, none⟩ = some (.slice (some bi) l0_0.length c0_0) ∧ w'.cell? ⟨bL, 1, none⟩ = some (.slice A0_1 l0_1.length c0_1) ∧ w'.cell? ⟨bs, 0, none⟩ = some (.int .i64 a1_0) ∧ w'.cell? ⟨bs, 1, none⟩ = some (.bool a1_1) ∧ w'.cell? ⟨bs, 2, none⟩ = some (.int .i64 a1_2) ∧ w'.cell? ⟨bs, 3, none⟩ = some (.int .i64 a1_3) ∧ w'.cell? ⟨bs, 4, none⟩ = some (.int .i64 a1_4) ∧ w'.cell? ⟨bs, 5, none⟩ = some (.int .i64 a1_5) ∧ w'.cell? (bi.add ((a2).toNat * 6)) = some (.int .i64 ((rd_T36 l0_0 a2).f0)) ∧ w'.cell? ⟨(bi.add ((a2).toNat * 6)).block, (bi.add ((a2).toNat * 6)).off + 1, none⟩ = some (.bool ((rd_T36 l0_0 a2).f1)) ∧ w'.cell? ⟨(bi.add ((a2).toNat * 6)).block, (bi.add ((a2).toNat * 6)).off + 2, none⟩ = some (.int .i64 ((rd_T36 l0_0 a2).f2.f0)) ∧ w'.cell? ⟨(bi.add ((a2).toNat * 6)).block, (bi.add ((a2).toNat * 6)).off + 3, none⟩ = some (.int .i64 ((rd_T36 l0_0 a2).f2.f1)) ∧ w'.cell? ⟨(bi.add ((a2).toNat * 6)).block, (bi.add ((a2).toNat * 6)).off + 4, none⟩ = some (.int .i64 ((rd_T36 l0_0 a2).f2.f2)) ∧ w'.cell? ⟨(bi.add ((a2).toNat * 6)).block, (bi.add ((a2).toNat * 6)).off + 5, none⟩ = some (.int .i64 ((rd_T36 l0_0 a2).f2.f3))) (ds := []) #[false, false, false, false, false, false, false, false, false, false, false] (by kernel_rfl) rfl rfl ⟨(blk_cell bd.out 0).trans rfl, (blk_cell bd.out 1).trans rfl, (blk_cell bb.out 0).trans rfl, (blk_cell bb.out 1).trans rfl, (blk_cell bb.out 2).trans rfl, (blk_cell bb.out 3).trans rfl, (blk_cell bb.out 4).trans rfl, (blk_cell bb.out 5).trans rfl, ((HB.out.cell (World.block_lt_of_cell? w _ bo)).trans bo), ((HB.out.cell (World.block_lt_of_cell? w _ bn)).trans bn), ((HB.out.cell (World.block_lt_of_cell? w _ bm)).trans bm), ((HB.out.cell (World.block_lt_of_cell? w _ bl)).trans bl), ((HB.out.cell (World.block_lt_of_cell? w _ bk)).trans bk), ((HB.out.cell (World.block_lt_of_cell? w _ bj)).trans bj)⟩ (fun hHeld => ?_); refine with_tabW spec_Read.tab6 spec_Read.bits6 (fun HT_ HW_ => ?_); generalize wc.drew = dK at bd bb bf HB bx bz bA bB bC bD hHeld ⊢; refine rP HT_.out 2 29 #[false, false, true, false, false, false, false, false, false, false, false] ?_; refine rP HT_.out 4 31 #[false, false, true, false, true, false, false, false, false, false, false] ?_; refine rT HT_.out HW_.out hHeld 0 27 #[true, false, true, false, true, false, false, false, false, false, false] ?_; refine rT HT_.out HW_.out hHeld 1 28 #[true, true, true, false, true, false, false, false, false, false, false] ?_; refine rT HT_.out HW_.out hHeld 3 30 #[true, true, true, true, true, false, false, false, false, false, false] ?_; refine rP HT_.out 5 32 #[true, true, true, true, true, true, false, false, false, false, false] ?_; refine rT HT_.out HW_.out hHeld 6 33 #[true, true, true, true, true, true, true, false, false, false, false] ?_; refine one_ (i := 7) (N := some 34) #[true, true, true, true, true, true, true, true, false, false, false] rfl rfl (one_of HT_.out (by kernel_rfl)) (by decide) (fun K hK => ?_); refine goesR Try.func49 (by kernel_rfl) rfl #[.agg #[.int .i64 a1_0, .bool a1_1, .int .i64 a1_2, .int .i64 a1_3, .int .i64 a1_4, .int .i64 a1_5], .agg #[.int .i64 ((rd_T36 l0_0 a2).f0), .bool ((rd_T36 l0_0 a2).f1), .int .i64 ((rd_T36 l0_0 a2).f2.f0), .int .i64 ((rd_T36 l0_0 a2).f2.f1), .int .i64 ((rd_T36 l0_0 a2).f2.f2), .int .i64 ((rd_T36 l0_0 a2).f2.f3)]] (by rfl) rfl rfl ?_; (with_reducible refine (spec_Taken.calls a1_0 a1_1 a1_2 a1_3 a1_4 a1_5 ((rd_T36 l0_0 a2).f0) ((rd_T36 l0_0 a2).f1) ((rd_T36 l0_0 a2).f2.f0) ((rd_T36 l0_0 a2).f2.f1) ((rd_T36 l0_0 a2).f2.f2) ((rd_T36 l0_0 a2).f2.f3) bN bO bP bQ bR bS _ A23.out).mono ?_); rintro e dL ⟨rfl, hb⟩; refine ⟨_, rfl, ?_⟩; replace bd := nblk bd hb; replace bb := nblk bb hb; replace bf := nblk bf hb; replace HB := nbs HB hb; (try clear hb); refine hK.out _ _ ⟨(blk_cell bd.out 0).trans rfl, (blk_cell bd.out 1).trans rfl, (blk_cell bb.out 0).trans rfl, (blk_cell bb.out 1).trans rfl, (blk_cell bb.out 2).trans rfl, (blk_cell bb.out 3).trans rfl, (blk_cell bb.out 4).trans rfl, (blk_cell bb.out 5).trans rfl, ((HB.out.cell (World.block_lt_of_cell? w _ bo)).trans bo), ((HB.out.cell (World.block_lt_of_cell? w _ bn)).trans bn), ((HB.out.cell (World.block_lt_of_cell? w _ bm)).trans bm), ((HB.out.cell (World.block_lt_of_cell? w _ bl)).trans bl), ((HB.out.cell (World.block_lt_of_cell? w _ bk)).trans bk), ((HB.out.cell (World.block_lt_of_cell? w _ bj)).trans bj)⟩ (fun hHeld => ?_); clear hK K; refine norm_ (a' := ?_) ?_ ?_; rotate_left
        ·show Act.put _ (some 34) _ = _
         simp only [Act.put, List.setIfInBounds_toArray, List.set_cons_zero, List.set_cons_succ, i64_w, i32_w]; rfl
        refine one_ (i := 8) (N := some 35) #[true, true, true, true, true, true, true, true, true, false, false] rfl rfl (one_of HT_.out (by kernel_rfl)) (by decide) (fun K hK => ?_); refine goesR Try.func17 (by kernel_rfl) rfl #[.agg #[.slice (some bi) l0_0.length c0_0, .slice A0_1 l0_1.length c0_1], .agg #[.int .i64 bN, .bool bO, .int .i64 bP, .int .i64 bQ, .int .i64 bR, .int .i64 bS]] (by rfl) rfl rfl ?_; (with_reducible refine (spec_Filter.calls _ _ l0_0 _ _ l0_1 bN bO bP bQ bR bS bY bZ b0 b1 b2 b3 _ ?side1 ?side2 ?side3 ?side4 A24.out).mono ?_); (case side1 => exact nCb b4 HB); (case side2 => exact dq.out); (case side3 => exact nCb dr HB); (case side4 => exact dt.out); rintro e bv ⟨rfl, hb⟩; refine ⟨_, rfl, ?_⟩; replace bd := nblk bd hb; replace bb := nblk bb hb; replace bf := nblk bf hb; replace HB := nbs HB hb; (try clear hb); refine hK.out _ _ ⟨(blk_cell bd.out 0).trans rfl, (blk_cell bd.out 1).trans rfl, (blk_cell bb.out 0).trans rfl, (blk_cell bb.out 1).trans rfl, (blk_cell bb.out 2).trans rfl, (blk_cell bb.out 3).trans rfl, (blk_cell bb.out 4).trans rfl, (blk_cell bb.out 5).trans rfl, ((HB.out.cell (World.block_lt_of_cell? w _ bo)).trans bo), ((HB.out.cell (World.block_lt_of_cell? w _ bn)).trans bn), ((HB.out.cell (World.block_lt_of_cell? w _ bm)).trans bm), ((HB.out.cell (World.block_lt_of_cell? w _ bl)).trans bl), ((HB.out.cell (World.block_lt_of_cell? w _ bk)).trans bk), ((HB.out.cell (World.block_lt_of_cell? w _ bj)).trans bj)⟩ (fun hHeld => ?_); clear hK K; refine norm_ (a' := ?_) ?_ ?_; rotate_left
        ·show Act.put _ (some 35) _ = _
         simp only [Act.put, List.setIfInBounds_toArray, List.set_cons_zero, List.set_cons_succ, i64_w, i32_w]; rfl
        refine one_ (i := 9) (N := none) #[true, true, true, true, true, true, true, true, true, true, false] rfl rfl (one_of HT_.out (by kernel_rfl)) (by decide) (fun K hK => ?_); have hs28 : bv.cell? ⟨ba, 0, none⟩ = some (.int .i64 0) := (blk_cell bf.out 0).trans rfl; have hfs28 := blk_frozen bf.out 0; have hns28_0 := bw.out; have hns28_1 := br.out; have hms28_0 := bV.out; have hms28_1 := bW.out; have hs29 : bv.cell? ⟨ba, 1, none⟩ = some (.bool false) := (blk_cell bf.out 1).trans rfl; have hfs29 := blk_frozen bf.out 1; have hs30 : bv.cell? ⟨ba, 2, none⟩ = some (.int .i64 0) := (blk_cell bf.out 2).trans rfl; have hfs30 := blk_frozen bf.out 2; have hs31 : bv.cell? ⟨ba, 3, none⟩ = some (.int .i64 0) := (blk_cell bf.out 3).trans rfl; have hfs31 := blk_frozen bf.out 3; have hs32 : bv.cell? ⟨ba, 4, none⟩ = some (.int .i64 0) := (blk_cell bf.out 4).trans rfl; have hfs32 := blk_frozen bf.out 4; have hs33 : bv.cell? ⟨ba, 5, none⟩ = some (.int .i64 0) := (blk_cell bf.out 5).trans rfl; have hfs33 := blk_frozen bf.out 5; refine skip_ (w1 := ?_) (by rfl) rfl ?_ ?_; rotate_left
        ·go_simp
         rfl
        refine hK.out _ _ ⟨(g6 bw.out hHeld.1), (g6 bw.out hHeld.2.1), (g6 br.out hHeld.2.2.1), (g6 br.out hHeld.2.2.2.1), (g6 br.out hHeld.2.2.2.2.1), (g6 br.out hHeld.2.2.2.2.2.1), (g6 br.out hHeld.2.2.2.2.2.2.1), (g6 br.out hHeld.2.2.2.2.2.2.2.1), ((cell_far (p := ⟨ba, _, none⟩) (bne_ bo bc.out) _).trans (((cell_far (p := ⟨ba, _, none⟩) (bne_ bo bc.out) _).trans (((cell_far (p := ⟨ba, _, none⟩) (bne_ bo bc.out) _).trans (((cell_far (p := ⟨ba, _, none⟩) (bne_ bo bc.out) _).trans (((cell_far (p := ⟨ba, _, none⟩) (bne_ bo bc.out) _).trans (((cell_far (p := ⟨ba, _, none⟩) (bne_ bo bc.out) _).trans (hHeld.2.2.2.2.2.2.2.2.1)))))))))))), ((cell_far (p := ⟨ba, _, none⟩) (bne_ bn bc.out) _).trans (((cell_far (p := ⟨ba, _, none⟩) (bne_ bn bc.out) _).trans (((cell_far (p := ⟨ba, _, none⟩) (bne_ bn bc.out) _).trans (((cell_far (p := ⟨ba, _, none⟩) (bne_ bn bc.out) _).trans (((cell_far (p := ⟨ba, _, none⟩) (bne_ bn bc.out) _).trans (((cell_far (p := ⟨ba, _, none⟩) (bne_ bn bc.out) _).trans (hHeld.2.2.2.2.2.2.2.2.2.1)))))))))))), ((cell_far (p := ⟨ba, _, none⟩) (bne_ bm bc.out) _).trans (((cell_far (p := ⟨ba, _, none⟩) (bne_ bm bc.out) _).trans (((cell_far (p := ⟨ba, _, none⟩) (bne_ bm bc.out) _).trans (((cell_far (p := ⟨ba, _, none⟩) (bne_ bm bc.out) _).trans (((cell_far (p := ⟨ba, _, none⟩) (bne_ bm bc.out) _).trans (((cell_far (p := ⟨ba, _, none⟩) (bne_ bm bc.out) _).trans (hHeld.2.2.2.2.2.2.2.2.2.2.1)))))))))))), ((cell_far (p := ⟨ba, _, none⟩) (bne_ bl bc.out) _).trans (((cell_far (p := ⟨ba, _, none⟩) (bne_ bl bc.out) _).trans (((cell_far (p := ⟨ba, _, none⟩) (bne_ bl bc.out) _).trans (((cell_far (p := ⟨ba, _, none⟩) (bne_ bl bc.out) _).trans (((cell_far (p := ⟨ba, _, none⟩) (bne_ bl bc.out) _).trans (((cell_far (p := ⟨ba, _, none⟩) (bne_ bl bc.out) _).trans (hHeld.2.2.2.2.2.2.2.2.2.2.2.1)))))))))))), ((cell_far (p := ⟨ba, _, none⟩) (bne_ bk bc.out) _).trans (((cell_far (p := ⟨ba, _, none⟩) (bne_ bk bc.out) _).trans (((cell_far (p := ⟨ba, _, none⟩) (bne_ bk bc.out) _).trans (((cell_far (p := ⟨ba, _, none⟩) (bne_ bk bc.out) _).trans (((cell_far (p := ⟨ba, _, none⟩) (bne_ bk bc.out) _).trans (((cell_far (p := ⟨ba, _, none⟩) (bne_ bk bc.out) _).trans (hHeld.2.2.2.2.2.2.2.2.2.2.2.2.1)))))))))))), ((cell_far (p := ⟨ba, _, none⟩) (bne_ bj bc.out) _).trans (((cell_far (p := ⟨ba, _, none⟩) (bne_ bj bc.out) _).trans (((cell_far (p := ⟨ba, _, none⟩) (bne_ bj bc.out) _).trans (((cell_far (p := ⟨ba, _, none⟩) (bne_ bj bc.out) _).trans (((cell_far (p := ⟨ba, _, none⟩) (bne_ bj bc.out) _).trans (((cell_far (p := ⟨ba, _, none⟩) (bne_ bj bc.out) _).trans (hHeld.2.2.2.2.2.2.2.2.2.2.2.2.2))))))))))))⟩ (fun hHeld => ?_); clear hK K; refine rP HT_.out 10 7 #[true, true, true, true, true, true, true, true, true, true, true] ?_; refine done_ (done_of HT_.out (by kernel_rfl)) ?_
        try go_wp2
        refine bodyPost_ret (results_ct rfl _ _ ba 36 #[.int .i64 bY, .bool bZ, .int .i64 b0, .int .i64 b1, .int .i64 b2, .int .i64 b3] (0, 0) _ rfl (q6 bf) Try.underlying36 rfl (by kernel_rfl)) rfl ?_; exact ⟨er_, nbe HB⟩
       ·rw [if_neg c22] at H
        exact absurd H (by simp)
      ·rw [if_neg c21] at H
       exact absurd H (by simp)
     ·rw [if_neg c20] at H
      have c20b0 : (bt == 0) = false := beq_eq_false_iff_ne.mpr c20; have c20b1 : (bt != 0) = true := bne_iff_ne.mpr c20; simp only [Option.some.injEq, Prod.mk.injEq] at H; obtain ⟨rfl, rfl, rfl, rfl, rfl, rfl, rfl⟩ := H; have dM := bV.out; have dN := bw.out; have dO := bW.out; have dP := br.out; obtain ⟨dQ, dR, dS, dT, dU, dV⟩ := c6e bf; obtain ⟨dW, dX, dY, dZ, d0, d1⟩ := z6_ bf; go_wp2; refine bodyPost_ret (results_ct rfl _ _ ba 36 #[.int .i64 0, .bool false, .int .i64 0, .int .i64 0, .int .i64 0, .int .i64 0] (0, 0) _ rfl (q6 bf) Try.underlying36 rfl (by kernel_rfl)) rfl ?_; exact ⟨er_, nbe HB⟩

end Go.Proofs.Ytednioabjiabiaa.PFnMemory
