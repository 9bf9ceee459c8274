-- Written by a program of this session (wip/patch.py turns a copy of the kit's print): the functions that the law reaches, and their walks.
import Derived.Test.YtgfaicenpoahoaaPFnExactWorkx0
import Derived.Test.YtgfaicenpoahoaaPFnExactWorkx2
import Derived.Test.YtgfaicenpoahoaaCFnExactWork
namespace Go.Proofs.Ytgfaicenpoahoaa.PFnExactWork
open Go.RowKit Go.Proofs.YtgfaicenpoahoaaW.PrintWords Go.Proofs.YtgfaicenpoahoaaW.PrintLast Go.Proofs.YtgfaicenpoahoaaW.PrintMore Go.Proofs.YtgfaicenpoahoaaW.Mine
attribute [local go_sem] max2_int min2_int max_two min_two max_three min_three max_four min_four   -- for this text's walks alone
set_option linter.unusedVariables false
set_option linter.unusedSimpArgs false

/-! ### spec_Try: function 10 -/
def spec_Try.j0 : Nat → Int → Int → Bool → Int → Bool → Int → Int → Int → Int → Option (Int)
 | 0, _, _, _, _, _, _, _, _, _ => none
 | k + 1, x1, x2, x7, g8, g9, eu, ev, ew, ex => if x7 = true then (some 1) else (if ex = 0 then (if (Go.bits .and .i64 ew x2) = x2 then (if x1 < eu then (some 4) else (if x1 ≥ ev then (some 4) else (some 0))) else (some 3)) else (some 2))
def spec_Try.f (k : Nat) (a0_0 : Int) (a0_1 : Bool) (a0_2 : Int) (a0_3 : Int) (a0_4 : Int) (a0_5 : Int) (a1 : Int) (a2 : Int) : Option (Int) := (spec_WordOk.f k a0_0 a0_1 a0_2 a0_3 a0_4 a0_5).bind fun bz => (if bz = true then (spec_Try.j0 k a1 a2 (!a0_1) a0_0 a0_1 a0_2 a0_3 a0_4 a0_5) else (spec_Try.j0 k a1 a2 true a0_0 a0_1 a0_2 a0_3 a0_4 a0_5))
theorem spec_Try.mono_l : ∀ k, (∀ y0 y1 y2 y3 y4 y5 y6 y7 y8, LeO (spec_Try.j0 k y0 y1 y2 y3 y4 y5 y6 y7 y8) (spec_Try.j0 (k + 1) y0 y1 y2 y3 y4 y5 y6 y7 y8))
 | 0 => fun _ _ _ _ _ _ _ _ _ r h => by simp [spec_Try.j0] at h
 | k + 1 => by
  have ih0 := spec_Try.mono_l k
  ·intro y0 y1 y2 y3 y4 y5 y6 y7 y8
   unfold spec_Try.j0
   repeat' first
   | (with_reducible exact ih0 _ _ _ _ _ _ _ _ _)
   | (with_reducible exact spec_WordOk.mono _ _ _ _ _ _ _)
   | (with_reducible exact LeO.refl _)
   | (with_reducible exact LeO.none _)
   | (with_reducible refine LeO.ite ?_ ?_)
   | (with_reducible refine LeO.bind ?_ (fun _ => ?_))
   | exact ih0 _ _ _ _ _ _ _ _ _
   | exact spec_WordOk.mono _ _ _ _ _ _ _
   | exact LeO.none _
   | refine LeO.ite ?_ ?_
   | refine LeO.bind ?_ (fun _ => ?_)
theorem spec_Try.mono : ∀ a0 a1 a2 a3 a4 a5 a6 a7 k, LeO (spec_Try.f k a0 a1 a2 a3 a4 a5 a6 a7) (spec_Try.f (k + 1) a0 a1 a2 a3 a4 a5 a6 a7) := by
 intro a0 a1 a2 a3 a4 a5 a6 a7 k; have ih0 := spec_Try.mono_l k
 unfold spec_Try.f
 repeat' first
   | (with_reducible exact ih0 _ _ _ _ _ _ _ _ _)
   | (with_reducible exact spec_WordOk.mono _ _ _ _ _ _ _)
   | (with_reducible exact LeO.refl _)
   | (with_reducible exact LeO.none _)
   | (with_reducible refine LeO.ite ?_ ?_)
   | (with_reducible refine LeO.bind ?_ (fun _ => ?_))
   | exact ih0 _ _ _ _ _ _ _ _ _
   | exact spec_WordOk.mono _ _ _ _ _ _ _
   | exact LeO.none _
   | refine LeO.ite ?_ ?_
   | refine LeO.bind ?_ (fun _ => ?_)
set_option maxHeartbeats 8000000 in
set_option maxRecDepth 100000 in
theorem spec_Try.calls (k : Nat) (a0_0 : Int) (a0_1 : Bool) (a0_2 : Int) (a0_3 : Int) (a0_4 : Int) (a0_5 : Int) (a1 : Int) (a2 : Int) (r : Int) (w : World) (h : spec_Try.f k a0_0 a0_1 a0_2 a0_3 a0_4 a0_5 a1 a2 = some r) :
  Calls Try.prog 10 #[.agg #[.int .i64 a0_0, .bool a0_1, .int .i64 a0_2, .int .i64 a0_3, .int .i64 a0_4, .int .i64 a0_5], .int .i64 a1, .int .i64 a2] w fun e w' => e = .returned (.int .i64 r) ∧ Below w.heap.size w w' := by
 have hu30 := Try.underlying30; have HB := Aside0.mk (Below.refl w.heap.size w); have H : ((spec_WordOk.f k a0_0 a0_1 a0_2 a0_3 a0_4 a0_5).bind fun bz => (if bz = true then (spec_Try.j0 k a1 a2 (!a0_1) a0_0 a0_1 a0_2 a0_3 a0_4 a0_5) else (spec_Try.j0 k a1 a2 true a0_0 a0_1 a0_2 a0_3 a0_4 a0_5))) = some r := h; clear h; have b6 := Aside0.mk H; clear H
 go_enter Try.func10, Try.ntmps10
 go_upto_region 1 with (first | ((with_reducible refine gate_dst (N := 3) rfl ?_); refine bxe 3 #[.int .i64 a0_0, .bool a0_1, .int .i64 a0_2, .int .i64 a0_3, .int .i64 a0_4, .int .i64 a0_5] 30 ?_; intro ey hg w5 hbox hb; have bf := hbox; have ha := nge HB hg; have hc := nge HB hg; replace HB := nbs HB hb; clear hb hbox hg))
 (try simp only [Act.put, List.setIfInBounds_toArray, List.set_cons_zero, List.set_cons_succ])
 go_cut [7] (fun v7 wc => ∃ (kq : Nat) (bT : Bool), v7 = .bool bT ∧ Aside0 (spec_Try.j0 kq a1 a2 bT a0_0 a0_1 a0_2 a0_3 a0_4 a0_5 = some r) ∧ Aside0 (kq ≤ k) ∧ Aside0 (wc.heap[ey]? = some (.cells #[.int .i64 a0_0, .bool a0_1, .int .i64 a0_2, .int .i64 a0_3, .int .i64 a0_4, .int .i64 a0_5] 30 (0, 0))) ∧ Aside0 (Below w.heap.size w wc))
 case first =>
  have H := b6.out; clear b6; replace H := Option.bind_eq_some_iff.mp H; obtain ⟨bz, A60, H⟩ := H; replace H : (if bz = true then (spec_Try.j0 k a1 a2 (!a0_1) a0_0 a0_1 a0_2 a0_3 a0_4 a0_5) else (spec_Try.j0 k a1 a2 true a0_0 a0_1 a0_2 a0_3 a0_4 a0_5)) = some r := H; have A6 := Aside0.mk A60; clear A60
  by_cases c7 : bz = true
  ·subst c7
   have H1 : (spec_Try.j0 k a1 a2 (!a0_1) a0_0 a0_1 a0_2 a0_3 a0_4 a0_5) = some r := by rw [if_pos rfl] at H; exact H
   clear H; have H := H1; clear H1; have H' := Aside0.mk H; clear H; obtain ⟨bF, bG, bH, bI, bJ, bU⟩ := c6e bf; obtain ⟨bK, bL, bM, bN, bO, bV⟩ := z6_ bf
   go_wp2_with (first | ((with_reducible refine gate_callee (f := 23) rfl ?_); refine goesM (some 9) rfl rfl Try.func23 (by kernel_rfl) rfl #[.agg #[.int .i64 a0_0, .bool a0_1, .int .i64 a0_2, .int .i64 a0_3, .int .i64 a0_4, .int .i64 a0_5]] rfl ?_; (with_reducible refine (spec_WordOk.calls k a0_0 a0_1 a0_2 a0_3 a0_4 a0_5 true _ A6.out).mono ?_); rintro e w9 ⟨rfl, hb⟩; refine ⟨_, rfl, ?_⟩; replace bf := nblk bf hb; replace HB := nbs HB hb; (try clear hb); obtain ⟨b7, b8, b9, da, db, d1⟩ := c6e bf; obtain ⟨dc, dd, de, df, dg, d2⟩ := z6_ bf))
   go_meet
   case rel => exact ⟨_, (!a0_1), (by first | rfl | (simp; done) | (simp [*]; done)), H', ⟨by first | omega | exact Nat.le_refl _⟩, ⟨nb bf⟩, ⟨nbe HB⟩⟩
  ·replace c7 := Bool.eq_false_iff.mpr c7
   subst c7; have H1 : (spec_Try.j0 k a1 a2 true a0_0 a0_1 a0_2 a0_3 a0_4 a0_5) = some r := by rw [if_neg (show ¬ (false = true) by decide)] at H; exact H
   clear H; have H := H1; clear H1; have H' := Aside0.mk H; clear H; obtain ⟨d3, d4, d5, d6, d7, d8⟩ := c6e bf; obtain ⟨d9, ea, eb, ec, ed, ee⟩ := z6_ bf
   go_wp2_with (first | ((with_reducible refine gate_callee (f := 23) rfl ?_); refine goesM (some 9) rfl rfl Try.func23 (by kernel_rfl) rfl #[.agg #[.int .i64 a0_0, .bool a0_1, .int .i64 a0_2, .int .i64 a0_3, .int .i64 a0_4, .int .i64 a0_5]] rfl ?_; (with_reducible refine (spec_WordOk.calls k a0_0 a0_1 a0_2 a0_3 a0_4 a0_5 false _ A6.out).mono ?_); rintro e ez ⟨rfl, hb⟩; refine ⟨_, rfl, ?_⟩; replace bf := nblk bf hb; replace HB := nbs HB hb; (try clear hb)))
   go_meet
   case rel => exact ⟨_, (true), (by first | rfl | (simp; done) | (simp [*]; done)), H', ⟨by first | omega | exact Nat.le_refl _⟩, ⟨nb bf⟩, ⟨nbe HB⟩⟩
 case rest =>
  clear b6; try clear c1
  try clear c2
  try clear p2
  try clear c7
  try clear c10
  try clear b7
  try clear b8
  try clear b9
  try clear da
  try clear db
  try clear d1
  try clear d3
  try clear d4
  try clear d5
  try clear d6
  try clear d7
  try clear d8
  try clear bF
  try clear bG
  try clear bH
  try clear bI
  try clear bJ
  try clear bU
  try clear dc
  try clear dd
  try clear de
  try clear df
  try clear dg
  try clear d2
  try clear d9
  try clear ea
  try clear eb
  try clear ec
  try clear ed
  try clear ee
  try clear bK
  try clear bL
  try clear bM
  try clear bN
  try clear bO
  try clear bV
  obtain ⟨kq, bT, rfl, HA, hf, bf, HB⟩ := hcut
  cases kq with
  | zero => exact absurd HA.out (by simp [spec_Try.j0])
  | succ kj3 =>
   have H := HA.out; clear HA; simp only [spec_Try.j0] at H
   by_cases c13 : bT = true
   ·subst c13
    have H1 : (some 1) = some r := by rw [if_pos rfl] at H; exact H
    clear H; have H := H1; clear H1; obtain rfl := Option.some.inj H; go_wp2
    go_ret
    exact ⟨er_, nbe HB⟩
   ·replace c13 := Bool.eq_false_iff.mpr c13
    subst c13; have H1 : (if a0_5 = 0 then (if (Go.bits .and .i64 a0_4 a2) = a2 then (if a1 < a0_2 then (some 4) else (if a1 ≥ a0_3 then (some 4) else (some 0))) else (some 3)) else (some 2)) = some r := by rw [if_neg (show ¬ (false = true) by decide)] at H; exact H
    clear H; have H := H1; clear H1
    by_cases c14 : a0_5 = 0
    ·rw [if_pos c14] at H
     have c14b0 : (a0_5 == 0) = true := beq_iff_eq.mpr c14; have c14b1 : (a0_5 != 0) = false := bne_eq_false_iff_eq.mpr c14; clear c14
     by_cases c15 : (Go.bits .and .i64 a0_4 a2) = a2
     ·rw [if_pos c15] at H
      have c15b0 : ((Go.bits .and .i64 a0_4 a2) == a2) = true := beq_iff_eq.mpr c15; have c15b1 : ((Go.bits .and .i64 a0_4 a2) != a2) = false := bne_eq_false_iff_eq.mpr c15; clear c15
      by_cases c16 : a1 < a0_2
      ·rw [if_pos c16] at H
       have c16b0 : decide (a1 < a0_2) = true := decide_eq_true c16; clear c16; obtain rfl := Option.some.inj H; obtain ⟨eA, eB, eC, eD, eE, eF⟩ := c6e bf; obtain ⟨eG, eH, eI, eJ, eK, eL⟩ := z6_ bf; go_wp2
       go_ret
       exact ⟨er_, nbe HB⟩
      ·rw [if_neg c16] at H
       have c16b0 : decide (a1 < a0_2) = false := decide_eq_false c16; clear c16
       by_cases c18 : a1 ≥ a0_3
       ·rw [if_pos c18] at H
        have c18b0 : decide (a0_3 ≤ a1) = true := decide_eq_true c18; clear c18; obtain rfl := Option.some.inj H; obtain ⟨dh, di, dj, dk, dl, dm⟩ := c6e bf; obtain ⟨dn, dp, dq, dr, ds, dt⟩ := z6_ bf; go_wp2
        go_ret
        exact ⟨er_, nbe HB⟩
       ·rw [if_neg c18] at H
        have c18b0 : decide (a0_3 ≤ a1) = false := decide_eq_false c18; clear c18; obtain rfl := Option.some.inj H; obtain ⟨eM, eN, eO, eP, eQ, eR⟩ := c6e bf; obtain ⟨eS, eT, eU, eV, eW, eX⟩ := z6_ bf; go_wp2
        go_ret
        exact ⟨er_, nbe HB⟩
     ·rw [if_neg c15] at H
      have c15b0 : ((Go.bits .and .i64 a0_4 a2) == a2) = false := beq_eq_false_iff_ne.mpr c15; have c15b1 : ((Go.bits .and .i64 a0_4 a2) != a2) = true := bne_iff_ne.mpr c15; obtain rfl := Option.some.inj H; obtain ⟨eY, eZ, e0, e1, e2, e3⟩ := c6e bf; obtain ⟨e4, e5, e6, e7, e8, e9⟩ := z6_ bf; go_wp2
      go_ret
      exact ⟨er_, nbe HB⟩
    ·rw [if_neg c14] at H
     have c14b0 : (a0_5 == 0) = false := beq_eq_false_iff_ne.mpr c14; have c14b1 : (a0_5 != 0) = true := bne_iff_ne.mpr c14; obtain rfl := Option.some.inj H; obtain ⟨hh, hj, hl, hm, hn, ho⟩ := c6e bf; obtain ⟨hq, hs, ht, hu, hv, hw⟩ := z6_ bf; go_wp2
     go_ret
     exact ⟨er_, nbe HB⟩

/-! ### spec_l6Has: function 24 -/
def spec_l6Has.f (a0 : Int) : Option (Int) := (spec_l1In.f a0 1 15).bind fun bA => (if bA = true then ((some (([0, 9, 7, 3, 7, 7, 15, 7, 7, 3, 11, 14, 3, 10, 2, 0] : List Int) : List Int)).bind fun bj => (if 0 ≤ a0 then (if a0 < (bj.length : Int) then (some (rd bj a0)) else (none)) else (none))) else (some 0))
set_option maxHeartbeats 8000000 in
set_option maxRecDepth 100000 in
theorem spec_l6Has.calls (a0 : Int) (r : Int) (w : World) (h : spec_l6Has.f a0 = some r) :
  Calls Try.prog 24 #[.int .i64 a0] w fun e w' => e = .returned (.int .i64 r) ∧ Below w.heap.size w w' := by
 have HB := Aside0.mk (Below.refl w.heap.size w); have H : ((spec_l1In.f a0 1 15).bind fun bA => (if bA = true then ((some (([0, 9, 7, 3, 7, 7, 15, 7, 7, 3, 11, 14, 3, 10, 2, 0] : List Int) : List Int)).bind fun bj => (if 0 ≤ a0 then (if a0 < (bj.length : Int) then (some (rd bj a0)) else (none)) else (none))) else (some 0))) = some r := h; clear h; replace H := Option.bind_eq_some_iff.mp H; obtain ⟨bA, A20, H⟩ := H; replace H : (if bA = true then ((some (([0, 9, 7, 3, 7, 7, 15, 7, 7, 3, 11, 14, 3, 10, 2, 0] : List Int) : List Int)).bind fun bj => (if 0 ≤ a0 then (if a0 < (bj.length : Int) then (some (rd bj a0)) else (none)) else (none))) else (some 0)) = some r := H; have A2 := Aside0.mk A20; clear A20
 by_cases c3 : bA = true
 ·subst c3
  have H1 : ((some (([0, 9, 7, 3, 7, 7, 15, 7, 7, 3, 11, 14, 3, 10, 2, 0] : List Int) : List Int)).bind fun bj => (if 0 ≤ a0 then (if a0 < (bj.length : Int) then (some (rd bj a0)) else (none)) else (none))) = some r := by rw [if_pos rfl] at H; exact H
  clear H; have H := H1; clear H1; obtain ⟨bj, bP⟩ : ∃ y_ : List Int, y_ = (([0, 9, 7, 3, 7, 7, 15, 7, 7, 3, 11, 14, 3, 10, 2, 0] : List Int)) := ⟨_, rfl⟩; replace H : (if 0 ≤ a0 then (if a0 < (bj.length : Int) then (some (rd bj a0)) else (none)) else (none)) = some r := by first | (rw [bP]; with_reducible exact H) | (have H2_ := (Option.bind_some _ _).symm.trans H; rw [bP]; with_reducible exact H2_) | (have H2_ := (Option.bind_some _ _).symm.trans H; with_reducible exact H2_) | with_reducible exact H | (rw [bP]; exact H) | exact H
  have ef := Aside0.mk bP; clear bP
  by_cases c4 : 0 ≤ a0
  ·rw [if_pos c4] at H
   have c4b0 : decide (0 ≤ a0) = true := decide_eq_true c4; clear c4
   by_cases c5 : a0 < (bj.length : Int)
   ·rw [if_pos c5] at H
    have c5b0 : decide (a0 < (bj.length : Int)) = true := decide_eq_true c5; clear c5; obtain rfl := Option.some.inj H
    go_enter Try.func24, Try.ntmps24
    go_wp2_with (first | ((with_reducible refine gate_callee (f := 39) rfl ?_); refine goesM (some 4) rfl rfl Try.func39 (by kernel_rfl) rfl #[.int .i64 a0, .int .i64 1, .int .i64 15] rfl ?_; (with_reducible refine (spec_l1In.calls a0 1 15 true _ A2.out).mono ?_); rintro e w' ⟨rfl, ⟨nd, rfl⟩⟩; refine ⟨_, rfl, ?_⟩) | ((with_reducible refine gate_dst (N := 6) rfl ?_); refine Kd.R_lit (Kd.int .i64) _ 3 ?hg (N := 6) ?hd (xs := ([0, 9, 7, 3, 7, 7, 15, 7, 7, 3, 11, 14, 3, 10, 2, 0] : List Int)) (inner := [.int .i64 0, .int .i64 9, .int .i64 7, .int .i64 3, .int .i64 7, .int .i64 7, .int .i64 15, .int .i64 7, .int .i64 7, .int .i64 3, .int .i64 11, .int .i64 14, .int .i64 3, .int .i64 10, .int .i64 2, .int .i64 0]) (ok := fun _ => True) (okp := fun _ => True) ?hr ?hp (fun _ hk => hk) trivial (Below.refl _ _) (Nat.le_refl _) (by simp) ?_; (case hd => rfl); (case hg => rfl); (case hr => first | (go_simp; done) | (go_simp; rfl)); (case hp => exact (Reps.one (show Kd.M (Kd.int .i64) _ _ _ 0 [.int .i64 0] from rfl) (Reps.one (show Kd.M (Kd.int .i64) _ _ _ 9 [.int .i64 9] from rfl) (Reps.one (show Kd.M (Kd.int .i64) _ _ _ 7 [.int .i64 7] from rfl) (Reps.one (show Kd.M (Kd.int .i64) _ _ _ 3 [.int .i64 3] from rfl) (Reps.one (show Kd.M (Kd.int .i64) _ _ _ 7 [.int .i64 7] from rfl) (Reps.one (show Kd.M (Kd.int .i64) _ _ _ 7 [.int .i64 7] from rfl) (Reps.one (show Kd.M (Kd.int .i64) _ _ _ 15 [.int .i64 15] from rfl) (Reps.one (show Kd.M (Kd.int .i64) _ _ _ 7 [.int .i64 7] from rfl) (Reps.one (show Kd.M (Kd.int .i64) _ _ _ 7 [.int .i64 7] from rfl) (Reps.one (show Kd.M (Kd.int .i64) _ _ _ 3 [.int .i64 3] from rfl) (Reps.one (show Kd.M (Kd.int .i64) _ _ _ 11 [.int .i64 11] from rfl) (Reps.one (show Kd.M (Kd.int .i64) _ _ _ 14 [.int .i64 14] from rfl) (Reps.one (show Kd.M (Kd.int .i64) _ _ _ 3 [.int .i64 3] from rfl) (Reps.one (show Kd.M (Kd.int .i64) _ _ _ 10 [.int .i64 10] from rfl) (Reps.one (show Kd.M (Kd.int .i64) _ _ _ 2 [.int .i64 2] from rfl) (Reps.one (show Kd.M (Kd.int .i64) _ _ _ 0 [.int .i64 0] from rfl) (Reps.none _ _)))))))))))))))))); intro hx w6 bQ hb hg_ hnew_; clear hg_ hnew_; (first | rw [← ef.out] at bQ | (simp only [Int.reduceToNat] at bQ; rw [← ef.out] at bQ)); have eg := Aside0.mk (Kd.R_lower bQ (bsz HB)); replace HB := nbs HB hb; clear hb bQ; obtain ⟨hy, hz, ga⟩ := Kd.R_slice eg.out; subst ga; have p147 : 0 ≤ (a0 : Int) := of_decide_eq_true (by first | (with_reducible assumption) | assumption); have q147 : a0 < (bj.length : Int) := of_decide_eq_true (by first | (with_reducible assumption) | assumption); obtain ⟨hA, e147, hB⟩ := Kd.at_int (Kd.R_reads' eg.out).2.2 a0 p147 q147; cases e147; replace p147 := eq_true p147; replace q147 := eq_true q147))
    go_ret
    exact ⟨er_, nbe HB⟩
   ·rw [if_neg c5] at H
    exact absurd H (by simp)
  ·rw [if_neg c4] at H
   exact absurd H (by simp)
 ·replace c3 := Bool.eq_false_iff.mpr c3
  subst c3; have H1 : (some 0) = some r := by rw [if_neg (show ¬ (false = true) by decide)] at H; exact H
  clear H; have H := H1; clear H1; obtain rfl := Option.some.inj H
  go_enter Try.func24, Try.ntmps24
  go_wp2_with (first | ((with_reducible refine gate_callee (f := 39) rfl ?_); refine goesM (some 4) rfl rfl Try.func39 (by kernel_rfl) rfl #[.int .i64 a0, .int .i64 1, .int .i64 15] rfl ?_; (with_reducible refine (spec_l1In.calls a0 1 15 false _ A2.out).mono ?_); rintro e w' ⟨rfl, ⟨nd, rfl⟩⟩; refine ⟨_, rfl, ?_⟩))
  go_ret
  exact ⟨er_, nbe HB⟩

/-! ### spec_Sets: function 11 -/
def spec_Sets.f (a0_0 : Int) (a0_1 : Int) (a0_2 : Int) (a0_3 : Int) (a0_4 : Int) : Option (Int) := (spec_l6Has.f a0_0).bind fun bo => (if (Go.bits .and .i64 bo 1) = 0 then (some (-1)) else (some a0_1))
set_option maxHeartbeats 8000000 in
set_option maxRecDepth 100000 in
theorem spec_Sets.calls (a0_0 : Int) (a0_1 : Int) (a0_2 : Int) (a0_3 : Int) (a0_4 : Int) (r : Int) (w : World) (h : spec_Sets.f a0_0 a0_1 a0_2 a0_3 a0_4 = some r) :
  Calls Try.prog 11 #[.agg #[.int .i64 a0_0, .int .i64 a0_1, .int .i64 a0_2, .int .i64 a0_3, .int .i64 a0_4]] w fun e w' => e = .returned (.int .i64 r) ∧ Below w.heap.size w w' := by
 have hu34 := Try.underlying34; have HB := Aside0.mk (Below.refl w.heap.size w); have H : ((spec_l6Has.f a0_0).bind fun bo => (if (Go.bits .and .i64 bo 1) = 0 then (some (-1)) else (some a0_1))) = some r := h; clear h; replace H := Option.bind_eq_some_iff.mp H; obtain ⟨bo, A20, H⟩ := H; replace H : (if (Go.bits .and .i64 bo 1) = 0 then (some (-1)) else (some a0_1)) = some r := H; have A2 := Aside0.mk A20; clear A20
 by_cases c3 : (Go.bits .and .i64 bo 1) = 0
 ·rw [if_pos c3] at H
  have c3b0 : ((Go.bits .and .i64 bo 1) == 0) = true := beq_iff_eq.mpr c3; have c3b1 : ((Go.bits .and .i64 bo 1) != 0) = false := bne_eq_false_iff_eq.mpr c3; clear c3; obtain rfl := Option.some.inj H
  go_enter Try.func11, Try.ntmps11
  go_wp2_with (first | ((with_reducible refine gate_dst (N := 1) rfl ?_); refine bxe 1 #[.int .i64 a0_0, .int .i64 a0_1, .int .i64 a0_2, .int .i64 a0_3, .int .i64 a0_4] 34 ?_; intro gb hg w4 hbox hb; have bp := hbox; have gc := nge HB hg; have gd := nge HB hg; replace HB := nbs HB hb; clear hb hbox hg; obtain ⟨hC, hD, hE, hF, hG⟩ := c5e bp; obtain ⟨hH, hI, hJ, hK, hL⟩ := z5_ bp) | ((with_reducible refine gate_callee (f := 24) rfl ?_); refine goesM (some 5) rfl rfl Try.func24 (by kernel_rfl) rfl #[.int .i64 a0_0] rfl ?_; (with_reducible refine (spec_l6Has.calls a0_0 bo _ A2.out).mono ?_); rintro e w6 ⟨rfl, hb⟩; refine ⟨_, rfl, ?_⟩; replace bp := nblk bp hb; replace HB := nbs HB hb; (try clear hb)))
  go_ret
  exact ⟨er_, nbe HB⟩
 ·rw [if_neg c3] at H
  have c3b0 : ((Go.bits .and .i64 bo 1) == 0) = false := beq_eq_false_iff_ne.mpr c3; have c3b1 : ((Go.bits .and .i64 bo 1) != 0) = true := bne_iff_ne.mpr c3; obtain rfl := Option.some.inj H
  go_enter Try.func11, Try.ntmps11
  go_wp2_with (first | ((with_reducible refine gate_dst (N := 1) rfl ?_); refine bxe 1 #[.int .i64 a0_0, .int .i64 a0_1, .int .i64 a0_2, .int .i64 a0_3, .int .i64 a0_4] 34 ?_; intro gb hg w7 hbox hb; have bp := hbox; have gc := nge HB hg; have gd := nge HB hg; replace HB := nbs HB hb; clear hb hbox hg; obtain ⟨bF, bG, bH, bI, bJ⟩ := c5e bp; obtain ⟨bK, bL, bM, bN, bO⟩ := z5_ bp) | ((with_reducible refine gate_callee (f := 24) rfl ?_); refine goesM (some 5) rfl rfl Try.func24 (by kernel_rfl) rfl #[.int .i64 a0_0] rfl ?_; (with_reducible refine (spec_l6Has.calls a0_0 bo _ A2.out).mono ?_); rintro e w9 ⟨rfl, hb⟩; refine ⟨_, rfl, ?_⟩; replace bp := nblk bp hb; replace HB := nbs HB hb; (try clear hb); obtain ⟨b7, b8, b9, da, db⟩ := c5e bp; obtain ⟨dc, dd, de, df, dg⟩ := z5_ bp))
  go_ret
  exact ⟨er_, nbe HB⟩

/-! ### spec_Bare: function 41 -/
def spec_Bare.f (a0_0 : Int) (a0_1 : Bool) (a0_2 : Int) (a0_3 : Int) (a0_4 : Int) (a0_5 : Int) : Option (Int × Bool × Int × Int × Int × Int) := (spec_Plain.f a0_0).bind fun bm => (some (bm.1, bm.2.1, bm.2.2.1, bm.2.2.2.1, bm.2.2.2.2.1, bm.2.2.2.2.2))
set_option maxHeartbeats 8000000 in
set_option maxRecDepth 100000 in
theorem spec_Bare.calls (a0_0 : Int) (a0_1 : Bool) (a0_2 : Int) (a0_3 : Int) (a0_4 : Int) (a0_5 : Int) (r1 : Int) (r2 : Bool) (r3 : Int) (r4 : Int) (r5 : Int) (r6 : Int) (w : World) (h : spec_Bare.f a0_0 a0_1 a0_2 a0_3 a0_4 a0_5 = some (r1, r2, r3, r4, r5, r6)) :
  Calls Try.prog 41 #[.agg #[.int .i64 a0_0, .bool a0_1, .int .i64 a0_2, .int .i64 a0_3, .int .i64 a0_4, .int .i64 a0_5]] w fun e w' => e = .returned (.agg #[.int .i64 r1, .bool r2, .int .i64 r3, .int .i64 r4, .int .i64 r5, .int .i64 r6]) ∧ Below w.heap.size w w' := by
 have hu30 := Try.underlying30; have HB := Aside0.mk (Below.refl w.heap.size w); have H : ((spec_Plain.f a0_0).bind fun bm => (some (bm.1, bm.2.1, bm.2.2.1, bm.2.2.2.1, bm.2.2.2.2.1, bm.2.2.2.2.2))) = some (r1, r2, r3, r4, r5, r6) := h; clear h; replace H := Option.bind_eq_some_iff.mp H; obtain ⟨⟨du, dv, dw, dx, dy, dz⟩, A20, H⟩ := H; replace H : (some (du, dv, dw, dx, dy, dz)) = some (r1, r2, r3, r4, r5, r6) := H; have A2 := Aside0.mk A20; clear A20; simp only [Option.some.injEq, Prod.mk.injEq] at H; obtain ⟨rfl, rfl, rfl, rfl, rfl, rfl⟩ := H
 go_enter Try.func41, Try.ntmps41
 go_wp2_with (first | ((with_reducible refine gate_dst (N := 1) rfl ?_); refine bxe 1 #[.int .i64 a0_0, .bool a0_1, .int .i64 a0_2, .int .i64 a0_3, .int .i64 a0_4, .int .i64 a0_5] 30 ?_; intro hM hg w3 hbox hb; have bv := hbox; have hN := nge HB hg; have hO := nge HB hg; replace HB := nbs HB hb; clear hb hbox hg) | ((with_reducible refine gate_dst (N := 2) rfl ?_); refine bxe 2 #[.int .i64 0, .bool false, .int .i64 0, .int .i64 0, .int .i64 0, .int .i64 0] 30 ?_; intro gf hg w4 hbox hb; have bR := hbox; have hQ := nge HB hg; have hR := nge HB hg; have gg := nlt bv hg; have gh := ngt bv hg; replace bv := nblk bv hb; replace HB := nbs HB hb; clear hb hbox hg; have hS := gg.out; have hT := gh.out; obtain ⟨gi, gj, gl, gm, gn, gp⟩ := c6e bv; obtain ⟨gq, gr, gs, gt, gu, gv⟩ := z6_ bv) | ((with_reducible refine gate_callee (f := 22) rfl ?_); refine goesM (some 5) rfl rfl Try.func22 (by kernel_rfl) rfl #[.int .i64 a0_0] rfl ?_; (with_reducible refine (spec_Plain.calls a0_0 du dv dw dx dy dz _ A2.out).mono ?_); rintro e w7 ⟨rfl, hb⟩; refine ⟨_, rfl, ?_⟩; replace bv := nblk bv hb; replace bR := nblk bR hb; replace HB := nbs HB hb; (try clear hb); obtain ⟨bF, bG, bH, bI, bJ, bU⟩ := c6e bR; obtain ⟨bK, bL, bM, bN, bO, bV⟩ := z6_ bR))
 refine bodyPost_ret (results_cell_row rfl _ _ gf 30 #[.int .i64 du, .bool dv, .int .i64 dw, .int .i64 dx, .int .i64 dy, .int .i64 dz] (0, 0) _ rfl (q6 bR) Try.underlying30 rfl (by kernel_rfl)) rfl ?_; exact ⟨er_, nbe HB⟩

/-! ### spec_Weaken: function 25 -/
def spec_Weaken.f (k : Nat) (a0_0 : Int) (a0_1 : Bool) (a0_2 : Int) (a0_3 : Int) (a0_4 : Int) (a0_5 : Int) (a1 : Int) : Option (Int × Bool × Int × Int × Int × Int) := (spec_l4Open.f k a0_0 a0_1 a0_2 a0_3 a0_4 a0_5).bind fun bB => (if bB = true then (some (a0_0, a0_1, a0_2, a0_3, Go.bits .and .i64 a0_4 (Go.bits .and .i64 a1 63), a0_5)) else ((spec_Bare.f a0_0 a0_1 a0_2 a0_3 a0_4 a0_5).bind fun bd => (some (bd.1, bd.2.1, bd.2.2.1, bd.2.2.2.1, bd.2.2.2.2.1, bd.2.2.2.2.2))))
theorem spec_Weaken.mono : ∀ a0 a1 a2 a3 a4 a5 a6 k, LeO (spec_Weaken.f k a0 a1 a2 a3 a4 a5 a6) (spec_Weaken.f (k + 1) a0 a1 a2 a3 a4 a5 a6) := by
 intro a0 a1 a2 a3 a4 a5 a6 k
 unfold spec_Weaken.f
 repeat' first
   | (with_reducible exact spec_l4Open.mono _ _ _ _ _ _ _)
   | (with_reducible exact LeO.refl _)
   | (with_reducible exact LeO.none _)
   | (with_reducible refine LeO.ite ?_ ?_)
   | (with_reducible refine LeO.bind ?_ (fun _ => ?_))
   | exact spec_l4Open.mono _ _ _ _ _ _ _
   | exact LeO.none _
   | refine LeO.ite ?_ ?_
   | refine LeO.bind ?_ (fun _ => ?_)
set_option maxHeartbeats 8000000 in
set_option maxRecDepth 100000 in
theorem spec_Weaken.calls (k : Nat) (a0_0 : Int) (a0_1 : Bool) (a0_2 : Int) (a0_3 : Int) (a0_4 : Int) (a0_5 : Int) (a1 : Int) (r1 : Int) (r2 : Bool) (r3 : Int) (r4 : Int) (r5 : Int) (r6 : Int) (w : World) (h : spec_Weaken.f k a0_0 a0_1 a0_2 a0_3 a0_4 a0_5 a1 = some (r1, r2, r3, r4, r5, r6)) :
  Calls Try.prog 25 #[.agg #[.int .i64 a0_0, .bool a0_1, .int .i64 a0_2, .int .i64 a0_3, .int .i64 a0_4, .int .i64 a0_5], .int .i64 a1] w fun e w' => e = .returned (.agg #[.int .i64 r1, .bool r2, .int .i64 r3, .int .i64 r4, .int .i64 r5, .int .i64 r6]) ∧ Below w.heap.size w w' := by
 have hu30 := Try.underlying30; have HB := Aside0.mk (Below.refl w.heap.size w); have H : ((spec_l4Open.f k a0_0 a0_1 a0_2 a0_3 a0_4 a0_5).bind fun bB => (if bB = true then (some (a0_0, a0_1, a0_2, a0_3, Go.bits .and .i64 a0_4 (Go.bits .and .i64 a1 63), a0_5)) else ((spec_Bare.f a0_0 a0_1 a0_2 a0_3 a0_4 a0_5).bind fun bd => (some (bd.1, bd.2.1, bd.2.2.1, bd.2.2.2.1, bd.2.2.2.2.1, bd.2.2.2.2.2))))) = some (r1, r2, r3, r4, r5, r6) := h; clear h; replace H := Option.bind_eq_some_iff.mp H; obtain ⟨bB, A30, H⟩ := H; replace H : (if bB = true then (some (a0_0, a0_1, a0_2, a0_3, Go.bits .and .i64 a0_4 (Go.bits .and .i64 a1 63), a0_5)) else ((spec_Bare.f a0_0 a0_1 a0_2 a0_3 a0_4 a0_5).bind fun bd => (some (bd.1, bd.2.1, bd.2.2.1, bd.2.2.2.1, bd.2.2.2.2.1, bd.2.2.2.2.2)))) = some (r1, r2, r3, r4, r5, r6) := H; have A3 := Aside0.mk A30; clear A30
 by_cases c4 : bB = true
 ·subst c4
  have H1 : (some (a0_0, a0_1, a0_2, a0_3, Go.bits .and .i64 a0_4 (Go.bits .and .i64 a1 63), a0_5)) = some (r1, r2, r3, r4, r5, r6) := by rw [if_pos rfl] at H; exact H
  clear H; have H := H1; clear H1; simp only [Option.some.injEq, Prod.mk.injEq] at H; obtain ⟨rfl, rfl, rfl, rfl, rfl, rfl⟩ := H
  go_enter Try.func25, Try.ntmps25
  go_wp2_with (first | ((with_reducible refine gate_dst (N := 2) rfl ?_); refine bxe 2 #[.int .i64 a0_0, .bool a0_1, .int .i64 a0_2, .int .i64 a0_3, .int .i64 a0_4, .int .i64 a0_5] 30 ?_; intro gw hg w5 hbox hb; have bg := hbox; have gx := nge HB hg; have gy := nge HB hg; replace HB := nbs HB hb; clear hb hbox hg) | ((with_reducible refine gate_dst (N := 4) rfl ?_); refine bxe 4 #[.int .i64 0, .bool false, .int .i64 0, .int .i64 0, .int .i64 0, .int .i64 0] 30 ?_; intro dA hg w6 hbox hb; have bl := hbox; have gz := nge HB hg; have gA := nge HB hg; have dB := nlt bg hg; have bW := ngt bg hg; replace bg := nblk bg hb; replace HB := nbs HB hb; clear hb hbox hg; have hU := dB.out; have hV := bW.out; obtain ⟨bF, bG, bH, bI, bJ, bU⟩ := c6e bg; obtain ⟨bK, bL, bM, bN, bO, bV⟩ := z6_ bg) | ((with_reducible refine gate_callee (f := 21) rfl ?_); refine goesM (some 6) rfl rfl Try.func21 (by kernel_rfl) rfl #[.agg #[.int .i64 a0_0, .bool a0_1, .int .i64 a0_2, .int .i64 a0_3, .int .i64 a0_4, .int .i64 a0_5]] rfl ?_; (with_reducible refine (spec_l4Open.calls k a0_0 a0_1 a0_2 a0_3 a0_4 a0_5 true _ A3.out).mono ?_); rintro e w9 ⟨rfl, hb⟩; refine ⟨_, rfl, ?_⟩; replace bg := nblk bg hb; replace bl := nblk bl hb; replace HB := nbs HB hb; (try clear hb); obtain ⟨b7, b8, b9, da, db, d1⟩ := c6e bg; obtain ⟨dc, dd, de, df, dg, d2⟩ := z6_ bg; obtain ⟨d3, d4, d5, d6, d7, d8⟩ := c6e bl; obtain ⟨d9, ea, eb, ec, ed, ee⟩ := z6_ bl))
  refine bodyPost_ret (results_cell_row rfl _ _ dA 30 #[.int .i64 a0_0, .bool a0_1, .int .i64 a0_2, .int .i64 a0_3, .int .i64 (Go.bits .and .i64 a0_4 (Go.bits .and .i64 a1 63)), .int .i64 a0_5] (0, 0) _ rfl (p6 bl (k1_ bW.out (nb bl))) Try.underlying30 rfl (by kernel_rfl)) rfl ?_; exact ⟨er_, nbe HB⟩
 ·replace c4 := Bool.eq_false_iff.mpr c4
  subst c4; have H1 : ((spec_Bare.f a0_0 a0_1 a0_2 a0_3 a0_4 a0_5).bind fun bd => (some (bd.1, bd.2.1, bd.2.2.1, bd.2.2.2.1, bd.2.2.2.2.1, bd.2.2.2.2.2))) = some (r1, r2, r3, r4, r5, r6) := by rw [if_neg (show ¬ (false = true) by decide)] at H; exact H
  clear H; have H := H1; clear H1; replace H := Option.bind_eq_some_iff.mp H; obtain ⟨⟨dC, dD, dE, dF, dG, dH⟩, A120, H⟩ := H; replace H : (some (dC, dD, dE, dF, dG, dH)) = some (r1, r2, r3, r4, r5, r6) := H; have A12 := Aside0.mk A120; clear A120; simp only [Option.some.injEq, Prod.mk.injEq] at H; obtain ⟨rfl, rfl, rfl, rfl, rfl, rfl⟩ := H
  go_enter Try.func25, Try.ntmps25
  go_wp2_with (first | ((with_reducible refine gate_dst (N := 2) rfl ?_); refine bxe 2 #[.int .i64 a0_0, .bool a0_1, .int .i64 a0_2, .int .i64 a0_3, .int .i64 a0_4, .int .i64 a0_5] 30 ?_; intro gw hg gB hbox hb; have bg := hbox; have gx := nge HB hg; have gy := nge HB hg; replace HB := nbs HB hb; clear hb hbox hg) | ((with_reducible refine gate_dst (N := 4) rfl ?_); refine bxe 4 #[.int .i64 0, .bool false, .int .i64 0, .int .i64 0, .int .i64 0, .int .i64 0] 30 ?_; intro dA hg gC hbox hb; have bl := hbox; have gz := nge HB hg; have gA := nge HB hg; have dB := nlt bg hg; have bW := ngt bg hg; replace bg := nblk bg hb; replace HB := nbs HB hb; clear hb hbox hg; have gD := dB.out; have gE := bW.out; obtain ⟨eh, ei, ej, ek, el, em⟩ := c6e bg; obtain ⟨en, eo, ep, er, es, et⟩ := z6_ bg) | ((with_reducible refine gate_callee (f := 21) rfl ?_); refine goesM (some 6) rfl rfl Try.func21 (by kernel_rfl) rfl #[.agg #[.int .i64 a0_0, .bool a0_1, .int .i64 a0_2, .int .i64 a0_3, .int .i64 a0_4, .int .i64 a0_5]] rfl ?_; (with_reducible refine (spec_l4Open.calls k a0_0 a0_1 a0_2 a0_3 a0_4 a0_5 false _ A3.out).mono ?_); rintro e gF ⟨rfl, hb⟩; refine ⟨_, rfl, ?_⟩; replace bg := nblk bg hb; replace bl := nblk bl hb; replace HB := nbs HB hb; (try clear hb); obtain ⟨hW, hX, hY, hZ, h0, h1⟩ := c6e bg; obtain ⟨h2, h3, h4, h5, h6, h7⟩ := z6_ bg) | ((with_reducible refine gate_callee (f := 41) rfl ?_); refine goesM (some 9) rfl rfl Try.func41 (by kernel_rfl) rfl #[.agg #[.int .i64 a0_0, .bool a0_1, .int .i64 a0_2, .int .i64 a0_3, .int .i64 a0_4, .int .i64 a0_5]] rfl ?_; (with_reducible refine (spec_Bare.calls a0_0 a0_1 a0_2 a0_3 a0_4 a0_5 dC dD dE dF dG dH _ A12.out).mono ?_); rintro e h8 ⟨rfl, hb⟩; refine ⟨_, rfl, ?_⟩; replace bg := nblk bg hb; replace bl := nblk bl hb; replace HB := nbs HB hb; (try clear hb); obtain ⟨eM, eN, eO, eP, eQ, eR⟩ := c6e bl; obtain ⟨eS, eT, eU, eV, eW, eX⟩ := z6_ bl))
  refine bodyPost_ret (results_cell_row rfl _ _ dA 30 #[.int .i64 dC, .bool dD, .int .i64 dE, .int .i64 dF, .int .i64 dG, .int .i64 dH] (0, 0) _ rfl (q6 bl) Try.underlying30 rfl (by kernel_rfl)) rfl ?_; exact ⟨er_, nbe HB⟩

/-! ### spec_Narrow: function 26 -/
def spec_Narrow.j0 : Nat → Int → Bool → Int → Bool → Int → Int → Int → Int → Option (Int × Bool × Int × Int × Int × Int)
 | 0, _, _, _, _, _, _, _, _ => none
 | k + 1, x1, gG, bC, bX, bY, bZ, b0, b1 => if gG = true then ((spec_Bare.f bC bX bY bZ b0 b1).bind fun bn => (some (bn.1, bn.2.1, bn.2.2.1, bn.2.2.2.1, bn.2.2.2.2.1, bn.2.2.2.2.2))) else ((spec_Wide.f k bC (wrap64 (bC + x1))).bind fun bs => (if bs.1 < bY then ((spec_Bare.f bC bX bY bZ b0 b1).bind fun bh => (some (bh.1, bh.2.1, bh.2.2.1, bh.2.2.2.1, bh.2.2.2.2.1, bh.2.2.2.2.2))) else (if bs.2 > bZ then ((spec_Bare.f bC bX bY bZ b0 b1).bind fun bi => (some (bi.1, bi.2.1, bi.2.2.1, bi.2.2.2.1, bi.2.2.2.2.1, bi.2.2.2.2.2))) else (some (bC, bX, bs.1, bs.2, b0, b1)))))
def spec_Narrow.f (k : Nat) (a0_0 : Int) (a0_1 : Bool) (a0_2 : Int) (a0_3 : Int) (a0_4 : Int) (a0_5 : Int) (a1 : Int) : Option (Int × Bool × Int × Int × Int × Int) := (spec_l4Open.f k a0_0 a0_1 a0_2 a0_3 a0_4 a0_5).bind fun bD => (if bD = true then ((spec_l1In.f a1 0 4096).bind fun bq => (if bq = true then ((spec_BoundsOk.f a0_0 (wrap64 (a0_0 + a1))).bind fun bk => (spec_Narrow.j0 k a1 (!bk) a0_0 a0_1 a0_2 a0_3 a0_4 a0_5)) else (spec_Narrow.j0 k a1 true a0_0 a0_1 a0_2 a0_3 a0_4 a0_5))) else (spec_Narrow.j0 k a1 true a0_0 a0_1 a0_2 a0_3 a0_4 a0_5))
theorem spec_Narrow.mono_l : ∀ k, (∀ y0 y1 y2 y3 y4 y5 y6 y7, LeO (spec_Narrow.j0 k y0 y1 y2 y3 y4 y5 y6 y7) (spec_Narrow.j0 (k + 1) y0 y1 y2 y3 y4 y5 y6 y7))
 | 0 => fun _ _ _ _ _ _ _ _ r h => by simp [spec_Narrow.j0] at h
 | k + 1 => by
  have ih0 := spec_Narrow.mono_l k
  ·intro y0 y1 y2 y3 y4 y5 y6 y7
   unfold spec_Narrow.j0
   repeat' first
   | (with_reducible exact ih0 _ _ _ _ _ _ _ _)
   | (with_reducible exact spec_Wide.mono _ _ _)
   | (with_reducible exact spec_l4Open.mono _ _ _ _ _ _ _)
   | (with_reducible exact LeO.refl _)
   | (with_reducible exact LeO.none _)
   | (with_reducible refine LeO.ite ?_ ?_)
   | (with_reducible refine LeO.bind ?_ (fun _ => ?_))
   | exact ih0 _ _ _ _ _ _ _ _
   | exact spec_Wide.mono _ _ _
   | exact spec_l4Open.mono _ _ _ _ _ _ _
   | exact LeO.none _
   | refine LeO.ite ?_ ?_
   | refine LeO.bind ?_ (fun _ => ?_)
theorem spec_Narrow.mono : ∀ a0 a1 a2 a3 a4 a5 a6 k, LeO (spec_Narrow.f k a0 a1 a2 a3 a4 a5 a6) (spec_Narrow.f (k + 1) a0 a1 a2 a3 a4 a5 a6) := by
 intro a0 a1 a2 a3 a4 a5 a6 k; have ih0 := spec_Narrow.mono_l k
 unfold spec_Narrow.f
 repeat' first
   | (with_reducible exact ih0 _ _ _ _ _ _ _ _)
   | (with_reducible exact spec_Wide.mono _ _ _)
   | (with_reducible exact spec_l4Open.mono _ _ _ _ _ _ _)
   | (with_reducible exact LeO.refl _)
   | (with_reducible exact LeO.none _)
   | (with_reducible refine LeO.ite ?_ ?_)
   | (with_reducible refine LeO.bind ?_ (fun _ => ?_))
   | exact ih0 _ _ _ _ _ _ _ _
   | exact spec_Wide.mono _ _ _
   | exact spec_l4Open.mono _ _ _ _ _ _ _
   | exact LeO.none _
   | refine LeO.ite ?_ ?_
   | refine LeO.bind ?_ (fun _ => ?_)
set_option maxHeartbeats 8000000 in
set_option maxRecDepth 100000 in
theorem spec_Narrow.calls (k : Nat) (a0_0 : Int) (a0_1 : Bool) (a0_2 : Int) (a0_3 : Int) (a0_4 : Int) (a0_5 : Int) (a1 : Int) (r1 : Int) (r2 : Bool) (r3 : Int) (r4 : Int) (r5 : Int) (r6 : Int) (w : World) (h : spec_Narrow.f k a0_0 a0_1 a0_2 a0_3 a0_4 a0_5 a1 = some (r1, r2, r3, r4, r5, r6)) :
  Calls Try.prog 26 #[.agg #[.int .i64 a0_0, .bool a0_1, .int .i64 a0_2, .int .i64 a0_3, .int .i64 a0_4, .int .i64 a0_5], .int .i64 a1] w fun e w' => e = .returned (.agg #[.int .i64 r1, .bool r2, .int .i64 r3, .int .i64 r4, .int .i64 r5, .int .i64 r6]) ∧ Below w.heap.size w w' := by
 have hu30 := Try.underlying30; have HB := Aside0.mk (Below.refl w.heap.size w); have H : ((spec_l4Open.f k a0_0 a0_1 a0_2 a0_3 a0_4 a0_5).bind fun bD => (if bD = true then ((spec_l1In.f a1 0 4096).bind fun bq => (if bq = true then ((spec_BoundsOk.f a0_0 (wrap64 (a0_0 + a1))).bind fun bk => (spec_Narrow.j0 k a1 (!bk) a0_0 a0_1 a0_2 a0_3 a0_4 a0_5)) else (spec_Narrow.j0 k a1 true a0_0 a0_1 a0_2 a0_3 a0_4 a0_5))) else (spec_Narrow.j0 k a1 true a0_0 a0_1 a0_2 a0_3 a0_4 a0_5))) = some (r1, r2, r3, r4, r5, r6) := h; clear h; have dI := Aside0.mk H; clear H
 go_enter Try.func26, Try.ntmps26
 go_upto_region 1 with (first | ((with_reducible refine gate_dst (N := 2) rfl ?_); refine bxe 2 #[.int .i64 a0_0, .bool a0_1, .int .i64 a0_2, .int .i64 a0_3, .int .i64 a0_4, .int .i64 a0_5] 30 ?_; intro gH hg w4 hbox hb; have ba := hbox; have h9 := nge HB hg; have ia := nge HB hg; replace HB := nbs HB hb; clear hb hbox hg) | ((with_reducible refine gate_dst (N := 4) rfl ?_); refine bxe 4 #[.int .i64 0, .bool false, .int .i64 0, .int .i64 0, .int .i64 0, .int .i64 0] 30 ?_; intro bS hg w5 hbox hb; have bb := hbox; have ib := nge HB hg; have ic := nge HB hg; have bx := nlt ba hg; have bw := ngt ba hg; replace ba := nblk ba hb; replace HB := nbs HB hb; clear hb hbox hg))
 (try simp only [Act.put, List.setIfInBounds_toArray, List.set_cons_zero, List.set_cons_succ])
 go_cut [24] (fun gI wc => ∃ (kq : Nat) (b2 : Bool), gI = .bool b2 ∧ Aside0 (spec_Narrow.j0 kq a1 b2 a0_0 a0_1 a0_2 a0_3 a0_4 a0_5 = some (r1, r2, r3, r4, r5, r6)) ∧ Aside0 (kq ≤ k) ∧ Aside0 (wc.heap[gH]? = some (.cells #[.int .i64 a0_0, .bool a0_1, .int .i64 a0_2, .int .i64 a0_3, .int .i64 a0_4, .int .i64 a0_5] 30 (0, 0))) ∧ Aside0 (wc.heap[bS]? = some (.cells #[.int .i64 0, .bool false, .int .i64 0, .int .i64 0, .int .i64 0, .int .i64 0] 30 (0, 0))) ∧ Aside0 (Below w.heap.size w wc))
 case first =>
  have H := dI.out; clear dI; replace H := Option.bind_eq_some_iff.mp H; obtain ⟨bD, A60, H⟩ := H; replace H : (if bD = true then ((spec_l1In.f a1 0 4096).bind fun bq => (if bq = true then ((spec_BoundsOk.f a0_0 (wrap64 (a0_0 + a1))).bind fun bk => (spec_Narrow.j0 k a1 (!bk) a0_0 a0_1 a0_2 a0_3 a0_4 a0_5)) else (spec_Narrow.j0 k a1 true a0_0 a0_1 a0_2 a0_3 a0_4 a0_5))) else (spec_Narrow.j0 k a1 true a0_0 a0_1 a0_2 a0_3 a0_4 a0_5)) = some (r1, r2, r3, r4, r5, r6) := H; have A6 := Aside0.mk A60; clear A60
  by_cases c7 : bD = true
  ·subst c7
   have H1 : ((spec_l1In.f a1 0 4096).bind fun bq => (if bq = true then ((spec_BoundsOk.f a0_0 (wrap64 (a0_0 + a1))).bind fun bk => (spec_Narrow.j0 k a1 (!bk) a0_0 a0_1 a0_2 a0_3 a0_4 a0_5)) else (spec_Narrow.j0 k a1 true a0_0 a0_1 a0_2 a0_3 a0_4 a0_5))) = some (r1, r2, r3, r4, r5, r6) := by rw [if_pos rfl] at H; exact H
   clear H; have H := H1; clear H1; replace H := Option.bind_eq_some_iff.mp H; obtain ⟨bq, A80, H⟩ := H; replace H : (if bq = true then ((spec_BoundsOk.f a0_0 (wrap64 (a0_0 + a1))).bind fun bk => (spec_Narrow.j0 k a1 (!bk) a0_0 a0_1 a0_2 a0_3 a0_4 a0_5)) else (spec_Narrow.j0 k a1 true a0_0 a0_1 a0_2 a0_3 a0_4 a0_5)) = some (r1, r2, r3, r4, r5, r6) := H; have A8 := Aside0.mk A80; clear A80
   by_cases c9 : bq = true
   ·subst c9
    have H1 : ((spec_BoundsOk.f a0_0 (wrap64 (a0_0 + a1))).bind fun bk => (spec_Narrow.j0 k a1 (!bk) a0_0 a0_1 a0_2 a0_3 a0_4 a0_5)) = some (r1, r2, r3, r4, r5, r6) := by rw [if_pos rfl] at H; exact H
    clear H; have H := H1; clear H1; replace H := Option.bind_eq_some_iff.mp H; obtain ⟨bk, A100, H⟩ := H; replace H : (spec_Narrow.j0 k a1 (!bk) a0_0 a0_1 a0_2 a0_3 a0_4 a0_5) = some (r1, r2, r3, r4, r5, r6) := H; have A10 := Aside0.mk A100; clear A100; have H' := Aside0.mk H; clear H; have ig := bx.out; have ih := bw.out; obtain ⟨gJ, gK, gL, gM, gN, gO⟩ := c6e ba; obtain ⟨gP, gQ, gR, gS, gT, gU⟩ := z6_ ba
    go_wp2_with (first | ((with_reducible refine gate_callee (f := 21) rfl ?_); refine goesM (some 8) rfl rfl Try.func21 (by kernel_rfl) rfl #[.agg #[.int .i64 a0_0, .bool a0_1, .int .i64 a0_2, .int .i64 a0_3, .int .i64 a0_4, .int .i64 a0_5]] rfl ?_; (with_reducible refine (spec_l4Open.calls k a0_0 a0_1 a0_2 a0_3 a0_4 a0_5 true _ A6.out).mono ?_); rintro e gB ⟨rfl, hb⟩; refine ⟨_, rfl, ?_⟩; replace ba := nblk ba hb; replace bb := nblk bb hb; replace HB := nbs HB hb; (try clear hb)) | (go_at_call 39; (with_reducible refine (spec_l1In.calls a1 0 4096 true _ A8.out).mono ?_); rintro e w' ⟨rfl, ⟨nd, rfl⟩⟩; obtain ⟨gV, gW, gX, gY, gZ, g0⟩ := c6e ba; obtain ⟨g1, g2, g3, g4, g5, g6⟩ := z6_ ba) | (go_at_call 42; (with_reducible refine (spec_BoundsOk.calls a0_0 (wrap64 (a0_0 + a1)) bk _ A10.out).mono ?_); rintro e w' ⟨rfl, ⟨nd, rfl⟩⟩))
    go_meet
    case rel => exact ⟨_, (!bk), (by first | rfl | (simp; done) | (simp [*]; done)), H', ⟨by first | omega | exact Nat.le_refl _⟩, ⟨nb ba⟩, ⟨nb bb⟩, ⟨nbe HB⟩⟩
   ·replace c9 := Bool.eq_false_iff.mpr c9
    subst c9; have H1 : (spec_Narrow.j0 k a1 true a0_0 a0_1 a0_2 a0_3 a0_4 a0_5) = some (r1, r2, r3, r4, r5, r6) := by rw [if_neg (show ¬ (false = true) by decide)] at H; exact H
    clear H; have H := H1; clear H1; have H' := Aside0.mk H; clear H; have gD := bx.out; have gE := bw.out; obtain ⟨eh, ei, ej, ek, el, em⟩ := c6e ba; obtain ⟨en, eo, ep, er, es, et⟩ := z6_ ba
    go_wp2_with (first | ((with_reducible refine gate_callee (f := 21) rfl ?_); refine goesM (some 8) rfl rfl Try.func21 (by kernel_rfl) rfl #[.agg #[.int .i64 a0_0, .bool a0_1, .int .i64 a0_2, .int .i64 a0_3, .int .i64 a0_4, .int .i64 a0_5]] rfl ?_; (with_reducible refine (spec_l4Open.calls k a0_0 a0_1 a0_2 a0_3 a0_4 a0_5 true _ A6.out).mono ?_); rintro e gF ⟨rfl, hb⟩; refine ⟨_, rfl, ?_⟩; replace ba := nblk ba hb; replace bb := nblk bb hb; replace HB := nbs HB hb; (try clear hb)) | (go_at_call 39; (with_reducible refine (spec_l1In.calls a1 0 4096 false _ A8.out).mono ?_); rintro e w' ⟨rfl, ⟨nd, rfl⟩⟩))
    go_meet
    case rel => exact ⟨_, (true), (by first | rfl | (simp; done) | (simp [*]; done)), H', ⟨by first | omega | exact Nat.le_refl _⟩, ⟨nb ba⟩, ⟨nb bb⟩, ⟨nbe HB⟩⟩
  ·replace c7 := Bool.eq_false_iff.mpr c7
   subst c7; have H1 : (spec_Narrow.j0 k a1 true a0_0 a0_1 a0_2 a0_3 a0_4 a0_5) = some (r1, r2, r3, r4, r5, r6) := by rw [if_neg (show ¬ (false = true) by decide)] at H; exact H
   clear H; have H := H1; clear H1; have H' := Aside0.mk H; clear H; have ii := bx.out; have ij := bw.out; obtain ⟨dh, di, dj, dk, dl, dm⟩ := c6e ba; obtain ⟨dn, dp, dq, dr, ds, dt⟩ := z6_ ba
   go_wp2_with (first | ((with_reducible refine gate_callee (f := 21) rfl ?_); refine goesM (some 8) rfl rfl Try.func21 (by kernel_rfl) rfl #[.agg #[.int .i64 a0_0, .bool a0_1, .int .i64 a0_2, .int .i64 a0_3, .int .i64 a0_4, .int .i64 a0_5]] rfl ?_; (with_reducible refine (spec_l4Open.calls k a0_0 a0_1 a0_2 a0_3 a0_4 a0_5 false _ A6.out).mono ?_); rintro e g7 ⟨rfl, hb⟩; refine ⟨_, rfl, ?_⟩; replace ba := nblk ba hb; replace bb := nblk bb hb; replace HB := nbs HB hb; (try clear hb)))
   go_meet
   case rel => exact ⟨_, (true), (by first | rfl | (simp; done) | (simp [*]; done)), H', ⟨by first | omega | exact Nat.le_refl _⟩, ⟨nb ba⟩, ⟨nb bb⟩, ⟨nbe HB⟩⟩
 case rest =>
  clear dI; try clear c1
  try clear c2
  try clear p2
  try clear p6
  try clear c7
  try clear c9
  try clear c11
  try clear c15
  try clear c18
  try clear gJ
  try clear gK
  try clear gL
  try clear gM
  try clear gN
  try clear gO
  try clear gV
  try clear gW
  try clear gX
  try clear gY
  try clear gZ
  try clear g0
  try clear eh
  try clear ei
  try clear ej
  try clear ek
  try clear el
  try clear em
  try clear dh
  try clear di
  try clear dj
  try clear dk
  try clear dl
  try clear dm
  try clear gP
  try clear gQ
  try clear gR
  try clear gS
  try clear gT
  try clear gU
  try clear g1
  try clear g2
  try clear g3
  try clear g4
  try clear g5
  try clear g6
  try clear en
  try clear eo
  try clear ep
  try clear er
  try clear es
  try clear et
  try clear dn
  try clear dp
  try clear dq
  try clear dr
  try clear ds
  try clear dt
  obtain ⟨kq, b2, rfl, HA, ik, ba, bb, HB⟩ := hcut
  cases kq with
  | zero => exact absurd HA.out (by simp [spec_Narrow.j0])
  | succ kj2 =>
   have H := HA.out; clear HA; simp only [spec_Narrow.j0] at H
   by_cases c21 : b2 = true
   ·subst c21
    have H1 : ((spec_Bare.f a0_0 a0_1 a0_2 a0_3 a0_4 a0_5).bind fun bn => (some (bn.1, bn.2.1, bn.2.2.1, bn.2.2.2.1, bn.2.2.2.2.1, bn.2.2.2.2.2))) = some (r1, r2, r3, r4, r5, r6) := by rw [if_pos rfl] at H; exact H
    clear H; have H := H1; clear H1; replace H := Option.bind_eq_some_iff.mp H; obtain ⟨⟨dJ, dK, dL, dM, dN, dO⟩, A220, H⟩ := H; replace H : (some (dJ, dK, dL, dM, dN, dO)) = some (r1, r2, r3, r4, r5, r6) := H; have A22 := Aside0.mk A220; clear A220; simp only [Option.some.injEq, Prod.mk.injEq] at H; obtain ⟨rfl, rfl, rfl, rfl, rfl, rfl⟩ := H; have il := bx.out; have im := bw.out; obtain ⟨io, ip, iq, ir, iu, iv⟩ := c6e ba; obtain ⟨iw, ix, iy, iz, iA, iB⟩ := z6_ ba
    go_wp2_with (first | ((with_reducible refine gate_callee (f := 41) rfl ?_); refine goesM (some 26) rfl rfl Try.func41 (by kernel_rfl) rfl #[.agg #[.int .i64 a0_0, .bool a0_1, .int .i64 a0_2, .int .i64 a0_3, .int .i64 a0_4, .int .i64 a0_5]] rfl ?_; (with_reducible refine (spec_Bare.calls a0_0 a0_1 a0_2 a0_3 a0_4 a0_5 dJ dK dL dM dN dO _ A22.out).mono ?_); rintro e iC ⟨rfl, hb⟩; refine ⟨_, rfl, ?_⟩; replace ba := nblk ba hb; replace bb := nblk bb hb; replace HB := nbs HB hb; (try clear hb); obtain ⟨iD, iE, iF, iG, iH, iI⟩ := c6e bb; obtain ⟨iJ, iK, iL, iM, iN, iO⟩ := z6_ bb))
    refine bodyPost_ret (results_cell_row rfl _ _ bS 30 #[.int .i64 dJ, .bool dK, .int .i64 dL, .int .i64 dM, .int .i64 dN, .int .i64 dO] (0, 0) _ rfl (q6 bb) Try.underlying30 rfl (by kernel_rfl)) rfl ?_; exact ⟨er_, nbe HB⟩
   ·replace c21 := Bool.eq_false_iff.mpr c21
    subst c21; have H1 : ((spec_Wide.f kj2 a0_0 (wrap64 (a0_0 + a1))).bind fun bs => (if bs.1 < a0_2 then ((spec_Bare.f a0_0 a0_1 a0_2 a0_3 a0_4 a0_5).bind fun bh => (some (bh.1, bh.2.1, bh.2.2.1, bh.2.2.2.1, bh.2.2.2.2.1, bh.2.2.2.2.2))) else (if bs.2 > a0_3 then ((spec_Bare.f a0_0 a0_1 a0_2 a0_3 a0_4 a0_5).bind fun bi => (some (bi.1, bi.2.1, bi.2.2.1, bi.2.2.2.1, bi.2.2.2.2.1, bi.2.2.2.2.2))) else (some (a0_0, a0_1, bs.1, bs.2, a0_4, a0_5))))) = some (r1, r2, r3, r4, r5, r6) := by rw [if_neg (show ¬ (false = true) by decide)] at H; exact H
    clear H; have H := H1; clear H1; replace H := Option.bind_eq_some_iff.mp H; obtain ⟨⟨bt, bu⟩, A270, H⟩ := H; replace H : (if bt < a0_2 then ((spec_Bare.f a0_0 a0_1 a0_2 a0_3 a0_4 a0_5).bind fun bh => (some (bh.1, bh.2.1, bh.2.2.1, bh.2.2.2.1, bh.2.2.2.2.1, bh.2.2.2.2.2))) else (if bu > a0_3 then ((spec_Bare.f a0_0 a0_1 a0_2 a0_3 a0_4 a0_5).bind fun bi => (some (bi.1, bi.2.1, bi.2.2.1, bi.2.2.2.1, bi.2.2.2.2.1, bi.2.2.2.2.2))) else (some (a0_0, a0_1, bt, bu, a0_4, a0_5)))) = some (r1, r2, r3, r4, r5, r6) := H; have A27 := Aside0.mk A270; clear A270
    by_cases c28 : bt < a0_2
    ·rw [if_pos c28] at H
     have c28b0 : decide (bt < a0_2) = true := decide_eq_true c28; clear c28; replace H := Option.bind_eq_some_iff.mp H; obtain ⟨⟨dP, dQ, dR, dS, dT, dU⟩, A290, H⟩ := H; replace H : (some (dP, dQ, dR, dS, dT, dU)) = some (r1, r2, r3, r4, r5, r6) := H; have A29 := Aside0.mk A290; clear A290; simp only [Option.some.injEq, Prod.mk.injEq] at H; obtain ⟨rfl, rfl, rfl, rfl, rfl, rfl⟩ := H; have iP := bx.out; have iQ := bw.out; obtain ⟨iR, iS, iT, iU, iV, iW⟩ := c6e ba; obtain ⟨iX, iY, iZ, i0, i1, i2⟩ := z6_ ba
     go_wp2_with (first | ((with_reducible refine gate_callee (f := 43) rfl ?_); refine goesM (some 34) rfl rfl Try.func43 (by kernel_rfl) rfl #[.int .i64 a0_0, .int .i64 (wrap64 (a0_0 + a1))] rfl ?_; (with_reducible refine (spec_Wide.calls kj2 a0_0 (wrap64 (a0_0 + a1)) bt bu _ A27.out).mono ?_); rintro e i3 ⟨rfl, hb⟩; refine ⟨_, rfl, ?_⟩; replace ba := nblk ba hb; replace bb := nblk bb hb; replace HB := nbs HB hb; (try clear hb); obtain ⟨i4, i5, i6, i7, i8, i9⟩ := c6e ba; obtain ⟨ja, jb, jc, jd, je, jf⟩ := z6_ ba) | ((with_reducible refine gate_callee (f := 41) rfl ?_); refine goesM (some 50) rfl rfl Try.func41 (by kernel_rfl) rfl #[.agg #[.int .i64 a0_0, .bool a0_1, .int .i64 a0_2, .int .i64 a0_3, .int .i64 a0_4, .int .i64 a0_5]] rfl ?_; (with_reducible refine (spec_Bare.calls a0_0 a0_1 a0_2 a0_3 a0_4 a0_5 dP dQ dR dS dT dU _ A29.out).mono ?_); rintro e jg ⟨rfl, hb⟩; refine ⟨_, rfl, ?_⟩; replace ba := nblk ba hb; replace bb := nblk bb hb; replace HB := nbs HB hb; (try clear hb); obtain ⟨jh, ji, jj, jk, jl, jm⟩ := c6e bb; obtain ⟨jn, jo, jp, jq, jr, js⟩ := z6_ bb))
     refine bodyPost_ret (results_cell_row rfl _ _ bS 30 #[.int .i64 dP, .bool dQ, .int .i64 dR, .int .i64 dS, .int .i64 dT, .int .i64 dU] (0, 0) _ rfl (q6 bb) Try.underlying30 rfl (by kernel_rfl)) rfl ?_; exact ⟨er_, nbe HB⟩
    ·rw [if_neg c28] at H
     have c28b0 : decide (bt < a0_2) = false := decide_eq_false c28; clear c28
     by_cases c36 : bu > a0_3
     ·rw [if_pos c36] at H
      have c36b0 : decide (a0_3 < bu) = true := decide_eq_true c36; clear c36; replace H := Option.bind_eq_some_iff.mp H; obtain ⟨⟨dV, dW, dX, dY, dZ, d0⟩, A370, H⟩ := H; replace H : (some (dV, dW, dX, dY, dZ, d0)) = some (r1, r2, r3, r4, r5, r6) := H; have A37 := Aside0.mk A370; clear A370; simp only [Option.some.injEq, Prod.mk.injEq] at H; obtain ⟨rfl, rfl, rfl, rfl, rfl, rfl⟩ := H; have jt := bx.out; have ju := bw.out; obtain ⟨jv, jw, jx, jy, jz, jA⟩ := c6e ba; obtain ⟨jB, jC, jD, jE, jF, jG⟩ := z6_ ba
      go_wp2_with (first | ((with_reducible refine gate_callee (f := 43) rfl ?_); refine goesM (some 34) rfl rfl Try.func43 (by kernel_rfl) rfl #[.int .i64 a0_0, .int .i64 (wrap64 (a0_0 + a1))] rfl ?_; (with_reducible refine (spec_Wide.calls kj2 a0_0 (wrap64 (a0_0 + a1)) bt bu _ A27.out).mono ?_); rintro e jH ⟨rfl, hb⟩; refine ⟨_, rfl, ?_⟩; replace ba := nblk ba hb; replace bb := nblk bb hb; replace HB := nbs HB hb; (try clear hb); obtain ⟨jI, jJ, jK, jL, jM, jN⟩ := c6e ba; obtain ⟨jO, jP, jQ, jR, jS, jT⟩ := z6_ ba) | ((with_reducible refine gate_callee (f := 41) rfl ?_); refine goesM (some 50) rfl rfl Try.func41 (by kernel_rfl) rfl #[.agg #[.int .i64 a0_0, .bool a0_1, .int .i64 a0_2, .int .i64 a0_3, .int .i64 a0_4, .int .i64 a0_5]] rfl ?_; (with_reducible refine (spec_Bare.calls a0_0 a0_1 a0_2 a0_3 a0_4 a0_5 dV dW dX dY dZ d0 _ A37.out).mono ?_); rintro e jU ⟨rfl, hb⟩; refine ⟨_, rfl, ?_⟩; replace ba := nblk ba hb; replace bb := nblk bb hb; replace HB := nbs HB hb; (try clear hb); obtain ⟨jV, jW, jX, jY, jZ, j1⟩ := c6e bb; obtain ⟨j2, j3, j4, j5, j6, j7⟩ := z6_ bb))
      refine bodyPost_ret (results_cell_row rfl _ _ bS 30 #[.int .i64 dV, .bool dW, .int .i64 dX, .int .i64 dY, .int .i64 dZ, .int .i64 d0] (0, 0) _ rfl (q6 bb) Try.underlying30 rfl (by kernel_rfl)) rfl ?_; exact ⟨er_, nbe HB⟩
     ·rw [if_neg c36] at H
      have c36b0 : decide (a0_3 < bu) = false := decide_eq_false c36; clear c36; simp only [Option.some.injEq, Prod.mk.injEq] at H; obtain ⟨rfl, rfl, rfl, rfl, rfl, rfl⟩ := H; have j8 := bx.out; have j9 := bw.out; obtain ⟨ka, kb, kc, kd, ke, kf⟩ := c6e ba; obtain ⟨kg, kh, ki, kj, kk, kl⟩ := z6_ ba
      go_wp2_with (first | ((with_reducible refine gate_callee (f := 43) rfl ?_); refine goesM (some 34) rfl rfl Try.func43 (by kernel_rfl) rfl #[.int .i64 a0_0, .int .i64 (wrap64 (a0_0 + a1))] rfl ?_; (with_reducible refine (spec_Wide.calls kj2 a0_0 (wrap64 (a0_0 + a1)) bt bu _ A27.out).mono ?_); rintro e km ⟨rfl, hb⟩; refine ⟨_, rfl, ?_⟩; replace ba := nblk ba hb; replace bb := nblk bb hb; replace HB := nbs HB hb; (try clear hb); obtain ⟨kn, ko, kp, kr, ks, kt⟩ := c6e ba; obtain ⟨ku, kv, kw, kx, ky, kz⟩ := z6_ ba; obtain ⟨kA, kB, kC, kD, kE, kF⟩ := c6e bb; obtain ⟨kG, kH, kI, kJ, kK, kL⟩ := z6_ bb))
      refine bodyPost_ret (results_cell_row rfl _ _ bS 30 #[.int .i64 a0_0, .bool a0_1, .int .i64 bt, .int .i64 bu, .int .i64 a0_4, .int .i64 a0_5] (0, 0) _ rfl (p6 bb (k2_ bw.out (nb bb))) Try.underlying30 rfl (by kernel_rfl)) rfl ?_; exact ⟨er_, nbe HB⟩

/-! ### spec_l4Sealer: function 44 -/
def spec_l4Sealer.f (k : Nat) (a0_0 : Int) (a0_1 : Bool) (a0_2 : Int) (a0_3 : Int) (a0_4 : Int) (a0_5 : Int) : Option (Bool) := (spec_l4Open.f k a0_0 a0_1 a0_2 a0_3 a0_4 a0_5).bind fun bE => (if bE = true then (if (Go.bits .and .i64 a0_4 32) = 0 then (some false) else (if a0_0 ≥ a0_2 then (if a0_0 < a0_3 then ((spec_l1In.f a0_0 1 7).bind fun br => (some br)) else (some false)) else (some false))) else (some false))
theorem spec_l4Sealer.mono : ∀ a0 a1 a2 a3 a4 a5 k, LeO (spec_l4Sealer.f k a0 a1 a2 a3 a4 a5) (spec_l4Sealer.f (k + 1) a0 a1 a2 a3 a4 a5) := by
 intro a0 a1 a2 a3 a4 a5 k
 unfold spec_l4Sealer.f
 repeat' first
   | (with_reducible exact spec_l4Open.mono _ _ _ _ _ _ _)
   | (with_reducible exact LeO.refl _)
   | (with_reducible exact LeO.none _)
   | (with_reducible refine LeO.ite ?_ ?_)
   | (with_reducible refine LeO.bind ?_ (fun _ => ?_))
   | exact spec_l4Open.mono _ _ _ _ _ _ _
   | exact LeO.none _
   | refine LeO.ite ?_ ?_
   | refine LeO.bind ?_ (fun _ => ?_)
set_option maxHeartbeats 8000000 in
set_option maxRecDepth 100000 in
theorem spec_l4Sealer.calls (k : Nat) (a0_0 : Int) (a0_1 : Bool) (a0_2 : Int) (a0_3 : Int) (a0_4 : Int) (a0_5 : Int) (r : Bool) (w : World) (h : spec_l4Sealer.f k a0_0 a0_1 a0_2 a0_3 a0_4 a0_5 = some r) :
  Calls Try.prog 44 #[.agg #[.int .i64 a0_0, .bool a0_1, .int .i64 a0_2, .int .i64 a0_3, .int .i64 a0_4, .int .i64 a0_5]] w fun e w' => e = .returned (.bool r) ∧ Below w.heap.size w w' := by
 have hu30 := Try.underlying30; have HB := Aside0.mk (Below.refl w.heap.size w); have H : ((spec_l4Open.f k a0_0 a0_1 a0_2 a0_3 a0_4 a0_5).bind fun bE => (if bE = true then (if (Go.bits .and .i64 a0_4 32) = 0 then (some false) else (if a0_0 ≥ a0_2 then (if a0_0 < a0_3 then ((spec_l1In.f a0_0 1 7).bind fun br => (some br)) else (some false)) else (some false))) else (some false))) = some r := h; clear h; replace H := Option.bind_eq_some_iff.mp H; obtain ⟨bE, A20, H⟩ := H; replace H : (if bE = true then (if (Go.bits .and .i64 a0_4 32) = 0 then (some false) else (if a0_0 ≥ a0_2 then (if a0_0 < a0_3 then ((spec_l1In.f a0_0 1 7).bind fun br => (some br)) else (some false)) else (some false))) else (some false)) = some r := H; have A2 := Aside0.mk A20; clear A20
 by_cases c3 : bE = true
 ·subst c3
  have H1 : (if (Go.bits .and .i64 a0_4 32) = 0 then (some false) else (if a0_0 ≥ a0_2 then (if a0_0 < a0_3 then ((spec_l1In.f a0_0 1 7).bind fun br => (some br)) else (some false)) else (some false))) = some r := by rw [if_pos rfl] at H; exact H
  clear H; have H := H1; clear H1
  by_cases c4 : (Go.bits .and .i64 a0_4 32) = 0
  ·rw [if_pos c4] at H
   have c4b0 : ((Go.bits .and .i64 a0_4 32) == 0) = true := beq_iff_eq.mpr c4; have c4b1 : ((Go.bits .and .i64 a0_4 32) != 0) = false := bne_eq_false_iff_eq.mpr c4; clear c4; obtain rfl := Option.some.inj H
   go_enter Try.func44, Try.ntmps44
   go_wp2_with (first | ((with_reducible refine gate_dst (N := 1) rfl ?_); refine bxe 1 #[.int .i64 a0_0, .bool a0_1, .int .i64 a0_2, .int .i64 a0_3, .int .i64 a0_4, .int .i64 a0_5] 30 ?_; intro b3 hg w5 hbox hb; have bc := hbox; have b4 := nge HB hg; have b5 := nge HB hg; replace HB := nbs HB hb; clear hb hbox hg; obtain ⟨gi, gj, gl, gm, gn, gp⟩ := c6e bc; obtain ⟨gq, gr, gs, gt, gu, gv⟩ := z6_ bc) | ((with_reducible refine gate_callee (f := 21) rfl ?_); refine goesM (some 4) rfl rfl Try.func21 (by kernel_rfl) rfl #[.agg #[.int .i64 a0_0, .bool a0_1, .int .i64 a0_2, .int .i64 a0_3, .int .i64 a0_4, .int .i64 a0_5]] rfl ?_; (with_reducible refine (spec_l4Open.calls k a0_0 a0_1 a0_2 a0_3 a0_4 a0_5 true _ A2.out).mono ?_); rintro e w7 ⟨rfl, hb⟩; refine ⟨_, rfl, ?_⟩; replace bc := nblk bc hb; replace HB := nbs HB hb; (try clear hb); obtain ⟨bF, bG, bH, bI, bJ, bU⟩ := c6e bc; obtain ⟨bK, bL, bM, bN, bO, bV⟩ := z6_ bc))
   go_ret
   exact ⟨er_, nbe HB⟩
  ·rw [if_neg c4] at H
   have c4b0 : ((Go.bits .and .i64 a0_4 32) == 0) = false := beq_eq_false_iff_ne.mpr c4; have c4b1 : ((Go.bits .and .i64 a0_4 32) != 0) = true := bne_iff_ne.mpr c4
   by_cases c9 : a0_0 ≥ a0_2
   ·rw [if_pos c9] at H
    have c9b0 : decide (a0_2 ≤ a0_0) = true := decide_eq_true c9; clear c9
    by_cases c10 : a0_0 < a0_3
    ·rw [if_pos c10] at H
     have c10b0 : decide (a0_0 < a0_3) = true := decide_eq_true c10; clear c10; replace H := Option.bind_eq_some_iff.mp H; obtain ⟨br, A110, H⟩ := H; replace H : (some br) = some r := H; have A11 := Aside0.mk A110; clear A110; obtain rfl := Option.some.inj H
     go_enter Try.func44, Try.ntmps44
     go_wp2_with (first | ((with_reducible refine gate_dst (N := 1) rfl ?_); refine bxe 1 #[.int .i64 a0_0, .bool a0_1, .int .i64 a0_2, .int .i64 a0_3, .int .i64 a0_4, .int .i64 a0_5] 30 ?_; intro b3 hg ez hbox hb; have bc := hbox; have b4 := nge HB hg; have b5 := nge HB hg; replace HB := nbs HB hb; clear hb hbox hg; obtain ⟨kM, kN, kO, kP, kQ, kR⟩ := c6e bc; obtain ⟨kS, kT, kU, kV, kW, kX⟩ := z6_ bc) | ((with_reducible refine gate_callee (f := 21) rfl ?_); refine goesM (some 4) rfl rfl Try.func21 (by kernel_rfl) rfl #[.agg #[.int .i64 a0_0, .bool a0_1, .int .i64 a0_2, .int .i64 a0_3, .int .i64 a0_4, .int .i64 a0_5]] rfl ?_; (with_reducible refine (spec_l4Open.calls k a0_0 a0_1 a0_2 a0_3 a0_4 a0_5 true _ A2.out).mono ?_); rintro e gC ⟨rfl, hb⟩; refine ⟨_, rfl, ?_⟩; replace bc := nblk bc hb; replace HB := nbs HB hb; (try clear hb); obtain ⟨kY, kZ, k0, k1, k2, k3⟩ := c6e bc; obtain ⟨k4, k5, k6, k7, k8, k9⟩ := z6_ bc) | (go_at_call 39; (with_reducible refine (spec_l1In.calls a0_0 1 7 br _ A11.out).mono ?_); rintro e w' ⟨rfl, ⟨nd, rfl⟩⟩))
     go_ret
     exact ⟨er_, nbe HB⟩
    ·rw [if_neg c10] at H
     have c10b0 : decide (a0_0 < a0_3) = false := decide_eq_false c10; clear c10; obtain rfl := Option.some.inj H
     go_enter Try.func44, Try.ntmps44
     go_wp2_with (first | ((with_reducible refine gate_dst (N := 1) rfl ?_); refine bxe 1 #[.int .i64 a0_0, .bool a0_1, .int .i64 a0_2, .int .i64 a0_3, .int .i64 a0_4, .int .i64 a0_5] 30 ?_; intro b3 hg ma hbox hb; have bc := hbox; have b4 := nge HB hg; have b5 := nge HB hg; replace HB := nbs HB hb; clear hb hbox hg; obtain ⟨eA, eB, eC, eD, eE, eF⟩ := c6e bc; obtain ⟨eG, eH, eI, eJ, eK, eL⟩ := z6_ bc) | ((with_reducible refine gate_callee (f := 21) rfl ?_); refine goesM (some 4) rfl rfl Try.func21 (by kernel_rfl) rfl #[.agg #[.int .i64 a0_0, .bool a0_1, .int .i64 a0_2, .int .i64 a0_3, .int .i64 a0_4, .int .i64 a0_5]] rfl ?_; (with_reducible refine (spec_l4Open.calls k a0_0 a0_1 a0_2 a0_3 a0_4 a0_5 true _ A2.out).mono ?_); rintro e mb ⟨rfl, hb⟩; refine ⟨_, rfl, ?_⟩; replace bc := nblk bc hb; replace HB := nbs HB hb; (try clear hb); obtain ⟨dh, di, dj, dk, dl, dm⟩ := c6e bc; obtain ⟨dn, dp, dq, dr, ds, dt⟩ := z6_ bc))
     go_ret
     exact ⟨er_, nbe HB⟩
   ·rw [if_neg c9] at H
    have c9b0 : decide (a0_2 ≤ a0_0) = false := decide_eq_false c9; clear c9; obtain rfl := Option.some.inj H
    go_enter Try.func44, Try.ntmps44
    go_wp2_with (first | ((with_reducible refine gate_dst (N := 1) rfl ?_); refine bxe 1 #[.int .i64 a0_0, .bool a0_1, .int .i64 a0_2, .int .i64 a0_3, .int .i64 a0_4, .int .i64 a0_5] 30 ?_; intro b3 hg g7 hbox hb; have bc := hbox; have b4 := nge HB hg; have b5 := nge HB hg; replace HB := nbs HB hb; clear hb hbox hg; obtain ⟨eY, eZ, e0, e1, e2, e3⟩ := c6e bc; obtain ⟨e4, e5, e6, e7, e8, e9⟩ := z6_ bc) | ((with_reducible refine gate_callee (f := 21) rfl ?_); refine goesM (some 4) rfl rfl Try.func21 (by kernel_rfl) rfl #[.agg #[.int .i64 a0_0, .bool a0_1, .int .i64 a0_2, .int .i64 a0_3, .int .i64 a0_4, .int .i64 a0_5]] rfl ?_; (with_reducible refine (spec_l4Open.calls k a0_0 a0_1 a0_2 a0_3 a0_4 a0_5 true _ A2.out).mono ?_); rintro e mc ⟨rfl, hb⟩; refine ⟨_, rfl, ?_⟩; replace bc := nblk bc hb; replace HB := nbs HB hb; (try clear hb); obtain ⟨md, mf, mg, mh, mi, mj⟩ := c6e bc; obtain ⟨ml, mm, mn, mo, mq, mr⟩ := z6_ bc))
    go_ret
    exact ⟨er_, nbe HB⟩
 ·replace c3 := Bool.eq_false_iff.mpr c3
  subst c3; have H1 : (some false) = some r := by rw [if_neg (show ¬ (false = true) by decide)] at H; exact H
  clear H; have H := H1; clear H1; obtain rfl := Option.some.inj H
  go_enter Try.func44, Try.ntmps44
  go_wp2_with (first | ((with_reducible refine gate_dst (N := 1) rfl ?_); refine bxe 1 #[.int .i64 a0_0, .bool a0_1, .int .i64 a0_2, .int .i64 a0_3, .int .i64 a0_4, .int .i64 a0_5] 30 ?_; intro b3 hg ms hbox hb; have bc := hbox; have b4 := nge HB hg; have b5 := nge HB hg; replace HB := nbs HB hb; clear hb hbox hg; obtain ⟨mt, mu, mv, mw, mx, mz⟩ := c6e bc; obtain ⟨mA, mB, mC, mD, mE, mF⟩ := z6_ bc) | ((with_reducible refine gate_callee (f := 21) rfl ?_); refine goesM (some 4) rfl rfl Try.func21 (by kernel_rfl) rfl #[.agg #[.int .i64 a0_0, .bool a0_1, .int .i64 a0_2, .int .i64 a0_3, .int .i64 a0_4, .int .i64 a0_5]] rfl ?_; (with_reducible refine (spec_l4Open.calls k a0_0 a0_1 a0_2 a0_3 a0_4 a0_5 false _ A2.out).mono ?_); rintro e mG ⟨rfl, hb⟩; refine ⟨_, rfl, ?_⟩; replace bc := nblk bc hb; replace HB := nbs HB hb; (try clear hb)))
  go_ret
  exact ⟨er_, nbe HB⟩

end Go.Proofs.Ytgfaicenpoahoaa.PFnExactWork
