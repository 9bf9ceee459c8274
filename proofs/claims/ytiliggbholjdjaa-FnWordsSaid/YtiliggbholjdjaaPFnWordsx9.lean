-- Written by a program of this session (wip/patch.py turns a copy of the kit's print): the functions that the law reaches, and their walks.
import Derived.Test.YtiliggbholjdjaaPFnWordsx0
import Derived.Test.YtiliggbholjdjaaPFnWordsx4
import Derived.Test.YtiliggbholjdjaaPFnWordsx7
import Derived.Test.YtiliggbholjdjaaPFnWordsx8
import Derived.Test.YtiliggbholjdjaaCFnWords
namespace Go.Proofs.Ytiliggbholjdjaa.PFnWords
open Go.RowKit Go.Proofs.YtiliggbholjdjaaW.PrintWords Go.Proofs.YtiliggbholjdjaaW.PrintLast Go.Proofs.YtiliggbholjdjaaW.PrintMore Go.Proofs.YtiliggbholjdjaaW.Mine
attribute [local go_sem] max2_int min2_int max_two min_two max_three min_three max_four min_four   -- for this text's walks alone
set_option linter.unusedVariables false
set_option linter.unusedSimpArgs false

/-! ### spec_Unders: function 38 -/
def spec_Unders.l0 : Nat → List (S27) → Int → Int → Bool → Int → Int → Int → Int → Option (Bool)
 | 0, _, _, _, _, _, _, _, _ => none
 | k + 1, x1, x5, da, db, bT, bU, bV, bW => if x5 < (x1.length : Int) then (if 0 ≤ x5 then (if (rd_T27 x1 x5).f1 = true then ((spec_Covers.f k ((rd_T27 x1 x5).f2.f0) ((rd_T27 x1 x5).f2.f1) ((rd_T27 x1 x5).f2.f2) ((rd_T27 x1 x5).f2.f3) bT bU bV bW).bind fun bG => (if bG = true then (some true) else (spec_Unders.l0 k x1 (wrap64 (x5 + 1)) da db bT bU bV bW))) else (spec_Unders.l0 k x1 (wrap64 (x5 + 1)) da db bT bU bV bW)) else (none)) else (some false)
def spec_Unders.f (k : Nat) (a0_0 : Int) (a0_1 : Bool) (a0_2 : Int) (a0_3 : Int) (a0_4 : Int) (a0_5 : Int) (l1 : List (S27)) : Option (Bool) := if a0_1 = true then (spec_Unders.l0 k l1 0 a0_0 a0_1 a0_2 a0_3 a0_4 a0_5) else (some true)
theorem spec_Unders.mono_l : ∀ k, (∀ y0 y1 y2 y3 y4 y5 y6 y7, LeO (spec_Unders.l0 k y0 y1 y2 y3 y4 y5 y6 y7) (spec_Unders.l0 (k + 1) y0 y1 y2 y3 y4 y5 y6 y7))
 | 0 => fun _ _ _ _ _ _ _ _ r h => by simp [spec_Unders.l0] at h
 | k + 1 => by
  have ih0 := spec_Unders.mono_l k
  ·intro y0 y1 y2 y3 y4 y5 y6 y7
   unfold spec_Unders.l0
   repeat' first
   | (with_reducible exact ih0 _ _ _ _ _ _ _ _)
   | (with_reducible exact spec_Covers.mono _ _ _ _ _ _ _ _ _)
   | (with_reducible exact LeO.refl _)
   | (with_reducible exact LeO.none _)
   | (with_reducible refine LeO.ite ?_ ?_)
   | (with_reducible refine LeO.bind ?_ (fun _ => ?_))
   | exact ih0 _ _ _ _ _ _ _ _
   | exact spec_Covers.mono _ _ _ _ _ _ _ _ _
   | exact LeO.none _
   | refine LeO.ite ?_ ?_
   | refine LeO.bind ?_ (fun _ => ?_)
theorem spec_Unders.mono : ∀ a0 a1 a2 a3 a4 a5 a6 k, LeO (spec_Unders.f k a0 a1 a2 a3 a4 a5 a6) (spec_Unders.f (k + 1) a0 a1 a2 a3 a4 a5 a6) := by
 intro a0 a1 a2 a3 a4 a5 a6 k; have ih0 := spec_Unders.mono_l k
 unfold spec_Unders.f
 repeat' first
   | (with_reducible exact ih0 _ _ _ _ _ _ _ _)
   | (with_reducible exact spec_Covers.mono _ _ _ _ _ _ _ _ _)
   | (with_reducible exact LeO.refl _)
   | (with_reducible exact LeO.none _)
   | (with_reducible refine LeO.ite ?_ ?_)
   | (with_reducible refine LeO.bind ?_ (fun _ => ?_))
   | exact ih0 _ _ _ _ _ _ _ _
   | exact spec_Covers.mono _ _ _ _ _ _ _ _ _
   | exact LeO.none _
   | refine LeO.ite ?_ ?_
   | refine LeO.bind ?_ (fun _ => ?_)
def spec_Unders.T6 : Bool × List (List Nat × List Nat) := (true, [([], []), ([], []), ([0, 1], [0, 1]), ([2], [2]), ([3], [3]), ([4], [4]), ([5], [5]), ([5], [5]), ([6, 7, 5], [5, 6, 7]), ([8, 5], [5, 8]), ([9, 5], [5, 9]), ([5], [5]), ([11, 5], [5, 11]), ([10, 12, 5, 5], [5, 10, 12]), ([5, 13], [5, 13])])
def spec_Unders.B6 : List Nat := [0, 0, 3, 7, 15, 31, 63, 63, 255, 511, 1023, 63, 2111, 8191, 16383]
theorem spec_Unders.tab6 : rtab .any (opsOf Try.f38 6) = spec_Unders.T6 := by kernel_rfl
theorem spec_Unders.bits6 : waitsOk spec_Unders.T6.2 spec_Unders.B6 = true := by kernel_rfl
set_option maxHeartbeats 8000000 in
set_option maxRecDepth 100000 in
theorem spec_Unders.calls (k : Nat) (a0_0 : Int) (a0_1 : Bool) (a0_2 : Int) (a0_3 : Int) (a0_4 : Int) (a0_5 : Int) (A1 : Option Addr) (c1 : Nat) (l1 : List (S27)) (r : Bool) (w : World) (hr1 : Kd.C k27 w A1 l1.length l1) (hc1 : l1.length ≤ c1) (h : spec_Unders.f k a0_0 a0_1 a0_2 a0_3 a0_4 a0_5 l1 = some r) :
  Calls Try.prog 38 #[.agg #[.int .i64 a0_0, .bool a0_1, .int .i64 a0_2, .int .i64 a0_3, .int .i64 a0_4, .int .i64 a0_5], .slice A1 l1.length c1] w fun e w' => e = .returned (.bool r) ∧ Below w.heap.size w w' := by
 have hu27 := Try.underlying27; have hu25 := Try.underlying25; have bL := Aside0.mk hr1; have dG := Aside0.mk hc1; clear hr1 hc1; have HB := Aside0.mk (Below.refl w.heap.size w); have H : (if a0_1 = true then (spec_Unders.l0 k l1 0 a0_0 a0_1 a0_2 a0_3 a0_4 a0_5) else (some true)) = some r := h; clear h
 by_cases c3 : a0_1 = true
 ·subst c3
  have H1 : (spec_Unders.l0 k l1 0 a0_0 true a0_2 a0_3 a0_4 a0_5) = some r := by rw [if_pos rfl] at H; exact H
  clear H; have H := H1; clear H1; have H' := Aside0.mk H; clear H
  go_enter Try.func38, Try.ntmps38
  go_wp2_with (first | ((with_reducible refine gate_dst (N := 2) rfl ?_); refine bxe 2 #[.int .i64 a0_0, .bool true, .int .i64 a0_2, .int .i64 a0_3, .int .i64 a0_4, .int .i64 a0_5] 27 ?_; intro bm hg w4 hbox hb; have bc := hbox; have di := nge HB hg; have dj := nge HB hg; replace HB := nbs HB hb; clear hb hbox hg; obtain ⟨dk, dl, dm, dn, dp, dq⟩ := c6e bc; obtain ⟨dr, dt, du, dv, dw, dx⟩ := z6_ bc))
  go_loopg [5] k (fun kq v5 w' => ∃ (ba : Int), v5 = .int .i64 ba ∧ Aside0 (spec_Unders.l0 kq l1 ba a0_0 true a0_2 a0_3 a0_4 a0_5 = some r) ∧ Aside0 (kq ≤ k) ∧ Aside0 (w'.heap[bm]? = some (.cells #[.int .i64 a0_0, .bool true, .int .i64 a0_2, .int .i64 a0_3, .int .i64 a0_4, .int .i64 a0_5] 27 (0, 0))) ∧ Aside0 (Below w.heap.size w w'))
  case atStart => exact ⟨(0), (by first | rfl | (simp; done) | (simp [*]; done)), H', ⟨Nat.le_refl _⟩, ⟨nb bc⟩, ⟨nbe HB⟩⟩
  case round =>
   clear H'; try clear c1
   try clear p2
   try clear c3
   try clear dk
   try clear dl
   try clear dm
   try clear dn
   try clear dp
   try clear dq
   try clear dr
   try clear dt
   try clear du
   try clear dv
   try clear dw
   try clear dx
   obtain ⟨ba, rfl, HA, bS, bc, HB⟩ := hrel
   cases gk with
   | zero => exact absurd HA.out (by simp [spec_Unders.l0])
   | succ k1 =>
    have H := HA.out; clear HA; simp only [spec_Unders.l0] at H
    by_cases c6 : ba < (l1.length : Int)
    ·rw [if_pos c6] at H
     have c6b0 : decide (ba < (l1.length : Int)) = true := decide_eq_true c6; clear c6
     by_cases c7 : 0 ≤ ba
     ·rw [if_pos c7] at H
      have c7b0 : decide (0 ≤ ba) = true := decide_eq_true c7; clear c7; obtain ⟨bq8, hbq8⟩ : ∃ b_ : Bool, b_ = ((rd_T27 l1 ba).f1) := ⟨_, rfl⟩; replace H : (if bq8 = true then ((spec_Covers.f k1 ((rd_T27 l1 ba).f2.f0) ((rd_T27 l1 ba).f2.f1) ((rd_T27 l1 ba).f2.f2) ((rd_T27 l1 ba).f2.f3) a0_2 a0_3 a0_4 a0_5).bind fun bG => (if bG = true then (some true) else (spec_Unders.l0 k1 l1 (wrap64 (ba + 1)) a0_0 true a0_2 a0_3 a0_4 a0_5))) else (spec_Unders.l0 k1 l1 (wrap64 (ba + 1)) a0_0 true a0_2 a0_3 a0_4 a0_5)) = some r := by rw [← hbq8] at H; exact H
      have Nbq8 := Aside0.mk hbq8; clear hbq8
      by_cases c9 : bq8 = true
      ·subst c9
       have H1 : ((spec_Covers.f k1 ((rd_T27 l1 ba).f2.f0) ((rd_T27 l1 ba).f2.f1) ((rd_T27 l1 ba).f2.f2) ((rd_T27 l1 ba).f2.f3) a0_2 a0_3 a0_4 a0_5).bind fun bG => (if bG = true then (some true) else (spec_Unders.l0 k1 l1 (wrap64 (ba + 1)) a0_0 true a0_2 a0_3 a0_4 a0_5))) = some r := by rw [if_pos rfl] at H; exact H
       clear H; have H := H1; clear H1; replace H := Option.bind_eq_some_iff.mp H; obtain ⟨bG, A100, H⟩ := H; replace H : (if bG = true then (some true) else (spec_Unders.l0 k1 l1 (wrap64 (ba + 1)) a0_0 true a0_2 a0_3 a0_4 a0_5)) = some r := H; have A10 := Aside0.mk A100; clear A100
       by_cases c11 : bG = true
       ·subst c11
        have H1 : (some true) = some r := by rw [if_pos rfl] at H; exact H
        clear H; have H := H1; clear H1; obtain rfl := Option.some.inj H
        try go_wp2
        replace bc := Aside0.mk (blk_drew bc.out); replace HB := Aside0.mk (below_drew1 HB.out); have p361 : 0 ≤ (ba : Int) := of_decide_eq_true (by first | (with_reducible assumption) | assumption); have q361 : ba < (l1.length : Int) := of_decide_eq_true (by first | (with_reducible assumption) | assumption); obtain ⟨bb, e361, bh, bd, bi, bj, bk, bl⟩ := at_T27 bL.out ba p361 q361; have bp := bl; have bq := bk; have br := bj; have bs := bi; have bg := bd; have bt := bh; (try rw [← Nbq8.out] at bd); (try rw [← Nbq8.out] at bg); (try rw [← Nbq8.out] at bg)
        cases e361
        replace bh := (HB.out.cell (World.block_lt_of_cell? w _ bh)).trans bh; replace bd := (HB.out.cell (World.block_lt_of_cell? w _ bd)).trans bd; replace bi := (HB.out.cell (World.block_lt_of_cell? w _ bi)).trans bi; replace bj := (HB.out.cell (World.block_lt_of_cell? w _ bj)).trans bj; replace bk := (HB.out.cell (World.block_lt_of_cell? w _ bk)).trans bk; replace bl := (HB.out.cell (World.block_lt_of_cell? w _ bl)).trans bl; replace p361 := eq_true p361; replace q361 := eq_true q361; have p362 : 0 ≤ (ba : Int) := of_decide_eq_true (by first | (with_reducible assumption) | assumption); have q362 : ba < (l1.length : Int) := of_decide_eq_true (by first | (with_reducible assumption) | assumption); obtain ⟨bX, e362, bu, bn, bv, bw, bx, bz⟩ := at_T27 bL.out ba p362 q362; have bA := bz; have bB := bx; have bC := bw; have bD := bv; have bo := bn; have bE := bu; (try rw [← Nbq8.out] at bn); (try rw [← Nbq8.out] at bo); (try rw [← Nbq8.out] at bo); obtain rfl : bb = bX := (by injection e362); replace bu := (HB.out.cell (World.block_lt_of_cell? w _ bu)).trans bu; replace bn := (HB.out.cell (World.block_lt_of_cell? w _ bn)).trans bn; replace bv := (HB.out.cell (World.block_lt_of_cell? w _ bv)).trans bv; replace bw := (HB.out.cell (World.block_lt_of_cell? w _ bw)).trans bw; replace bx := (HB.out.cell (World.block_lt_of_cell? w _ bx)).trans bx; replace bz := (HB.out.cell (World.block_lt_of_cell? w _ bz)).trans bz; replace p362 := eq_true p362; replace q362 := eq_true q362; refine start_ (n := 15) (S := fun w' => w'.cell? ⟨bm, 0, none⟩ = some (.int .i64 a0_0) ∧ w'.cell? ⟨bm, 1, none⟩ = some (.bool true) ∧ w'.cell? ⟨bm, 2, none⟩ = some (.int .i64 a0_2) ∧ w'.cell? ⟨bm, 3, none⟩ = some (.int .i64 a0_3) ∧ w'.cell? ⟨bm, 4, none⟩ = some (.int .i64 a0_4) ∧ w'.cell? ⟨bm, 5, none⟩ = some (.int .i64 a0_5) ∧ w'.cell? (bb.add ((ba).toNat * 6)) = some (.int .i64 ((rd_T27 l1 ba).f0)) ∧ w'.cell? ⟨(bb.add ((ba).toNat * 6)).block, (bb.add ((ba).toNat * 6)).off + 1, none⟩ = some (.bool true) ∧ w'.cell? ⟨(bb.add ((ba).toNat * 6)).block, (bb.add ((ba).toNat * 6)).off + 2, none⟩ = some (.int .i64 ((rd_T27 l1 ba).f2.f0)) ∧ w'.cell? ⟨(bb.add ((ba).toNat * 6)).block, (bb.add ((ba).toNat * 6)).off + 3, none⟩ = some (.int .i64 ((rd_T27 l1 ba).f2.f1)) ∧ w'.cell? ⟨(bb.add ((ba).toNat * 6)).block, (bb.add ((ba).toNat * 6)).off + 4, none⟩ = some (.int .i64 ((rd_T27 l1 ba).f2.f2)) ∧ w'.cell? ⟨(bb.add ((ba).toNat * 6)).block, (bb.add ((ba).toNat * 6)).off + 5, none⟩ = some (.int .i64 ((rd_T27 l1 ba).f2.f3)) ∧ w'.cell? (bb.add ((ba).toNat * 6)) = some (.int .i64 ((rd_T27 l1 ba).f0)) ∧ w'.cell? ⟨(bb.add ((ba).toNat * 6)).block, (bb.add ((ba).toNat * 6)).off + 1, none⟩ = some (.bool (true)) ∧ w'.cell? ⟨(bb.add ((ba).toNat * 6)).block, (bb.add ((ba).toNat * 6)).off + 2, none⟩ = some (.int .i64 ((rd_T27 l1 ba).f2.f0)) ∧ w'.cell? ⟨(bb.add ((ba).toNat * 6)).block, (bb.add ((ba).toNat * 6)).off + 3, none⟩ = some (.int .i64 ((rd_T27 l1 ba).f2.f1)) ∧ w'.cell? ⟨(bb.add ((ba).toNat * 6)).block, (bb.add ((ba).toNat * 6)).off + 4, none⟩ = some (.int .i64 ((rd_T27 l1 ba).f2.f2)) ∧ w'.cell? ⟨(bb.add ((ba).toNat * 6)).block, (bb.add ((ba).toNat * 6)).off + 5, none⟩ = some (.int .i64 ((rd_T27 l1 ba).f2.f3))) (ds := []) (ml [0, 15]) (by kernel_rfl) rfl rfl ⟨(blk_cell bc.out 0).trans rfl, (blk_cell bc.out 1).trans rfl, (blk_cell bc.out 2).trans rfl, (blk_cell bc.out 3).trans rfl, (blk_cell bc.out 4).trans rfl, (blk_cell bc.out 5).trans rfl, ((HB.out.cell (World.block_lt_of_cell? w _ bt)).trans bt), ((HB.out.cell (World.block_lt_of_cell? w _ bg)).trans bg), ((HB.out.cell (World.block_lt_of_cell? w _ bs)).trans bs), ((HB.out.cell (World.block_lt_of_cell? w _ br)).trans br), ((HB.out.cell (World.block_lt_of_cell? w _ bq)).trans bq), ((HB.out.cell (World.block_lt_of_cell? w _ bp)).trans bp), ((HB.out.cell (World.block_lt_of_cell? w _ bE)).trans bE), ((HB.out.cell (World.block_lt_of_cell? w _ bo)).trans bo), ((HB.out.cell (World.block_lt_of_cell? w _ bD)).trans bD), ((HB.out.cell (World.block_lt_of_cell? w _ bC)).trans bC), ((HB.out.cell (World.block_lt_of_cell? w _ bB)).trans bB), ((HB.out.cell (World.block_lt_of_cell? w _ bA)).trans bA)⟩ (fun hHeld => ?_); refine with_tabW spec_Unders.tab6 spec_Unders.bits6 (fun HT_ HW_ => ?_); generalize wr.drew = dH at bc HB bh bd bi bj bk bl bu bn bv bw bx bz hHeld ⊢; refine rP HT_.out 0 15 (ml [1, 14]) ?_; refine rP HT_.out 1 16 (ml [2, 13]) ?_; refine rP HT_.out 2 17 (ml [3, 12]) ?_; refine rP HT_.out 3 18 (ml [4, 11]) ?_; refine rT HT_.out HW_.out hHeld 4 19 (ml [5, 10]) ?_; refine rP HT_.out 5 20 (ml [6, 9]) ?_; refine rP HT_.out 6 21 (ml [7, 8]) ?_; refine rP HT_.out 7 22 (ml [8, 7]) ?_; refine rP HT_.out 8 23 (ml [9, 6]) ?_; refine rP HT_.out 9 24 (ml [10, 5]) ?_; refine rP HT_.out 11 26 (ml [10, 1, 1, 3]) ?_; refine rT HT_.out HW_.out hHeld 10 25 (ml [12, 3]) ?_; refine rT HT_.out HW_.out hHeld 12 27 (ml [13, 2]) ?_; refine one_ (i := 13) (N := some 28) (ml [14, 1]) rfl rfl (one_of HT_.out (by kernel_rfl)) (by decide) (fun K hK => ?_); refine goesR Try.func33 (by kernel_rfl) rfl #[.agg #[.int .i64 ((rd_T27 l1 ba).f2.f0), .int .i64 ((rd_T27 l1 ba).f2.f1), .int .i64 ((rd_T27 l1 ba).f2.f2), .int .i64 ((rd_T27 l1 ba).f2.f3)], .agg #[.int .i64 a0_2, .int .i64 a0_3, .int .i64 a0_4, .int .i64 a0_5]] (by rfl) rfl rfl ?_; (with_reducible refine (spec_Covers.calls k1 ((rd_T27 l1 ba).f2.f0) ((rd_T27 l1 ba).f2.f1) ((rd_T27 l1 ba).f2.f2) ((rd_T27 l1 ba).f2.f3) a0_2 a0_3 a0_4 a0_5 true _ A10.out).mono ?_); rintro e dI ⟨rfl, hb⟩; refine ⟨_, rfl, ?_⟩; replace bc := nblk bc hb; replace HB := nbs HB hb; (try clear hb); refine hK.out _ _ ⟨(blk_cell bc.out 0).trans rfl, (blk_cell bc.out 1).trans rfl, (blk_cell bc.out 2).trans rfl, (blk_cell bc.out 3).trans rfl, (blk_cell bc.out 4).trans rfl, (blk_cell bc.out 5).trans rfl, ((HB.out.cell (World.block_lt_of_cell? w _ bt)).trans bt), ((HB.out.cell (World.block_lt_of_cell? w _ bg)).trans bg), ((HB.out.cell (World.block_lt_of_cell? w _ bs)).trans bs), ((HB.out.cell (World.block_lt_of_cell? w _ br)).trans br), ((HB.out.cell (World.block_lt_of_cell? w _ bq)).trans bq), ((HB.out.cell (World.block_lt_of_cell? w _ bp)).trans bp), ((HB.out.cell (World.block_lt_of_cell? w _ bE)).trans bE), ((HB.out.cell (World.block_lt_of_cell? w _ bo)).trans bo), ((HB.out.cell (World.block_lt_of_cell? w _ bD)).trans bD), ((HB.out.cell (World.block_lt_of_cell? w _ bC)).trans bC), ((HB.out.cell (World.block_lt_of_cell? w _ bB)).trans bB), ((HB.out.cell (World.block_lt_of_cell? w _ bA)).trans bA)⟩ (fun hHeld => ?_); clear hK K; refine norm_ (a' := ?_) ?_ ?_; rotate_left
        ·show Act.put _ (some 28) _ = _
         simp only [Act.put, List.setIfInBounds_toArray, List.set_cons_zero, List.set_cons_succ, i64_w, i32_w]; rfl
        refine rP HT_.out 14 29 (ml [15]) ?_; refine done_ (done_of HT_.out (by kernel_rfl)) ?_
        try go_wp2
        go_ret
        exact ⟨er_, nbe HB⟩
       ·replace c11 := Bool.eq_false_iff.mpr c11
        subst c11; have H1 : (spec_Unders.l0 k1 l1 (wrap64 (ba + 1)) a0_0 true a0_2 a0_3 a0_4 a0_5) = some r := by rw [if_neg (show ¬ (false = true) by decide)] at H; exact H
        clear H; have H := H1; clear H1; have H' := Aside0.mk H; clear H
        try go_wp2
        replace bc := Aside0.mk (blk_drew bc.out); replace HB := Aside0.mk (below_drew1 HB.out); have p361 : 0 ≤ (ba : Int) := of_decide_eq_true (by first | (with_reducible assumption) | assumption); have q361 : ba < (l1.length : Int) := of_decide_eq_true (by first | (with_reducible assumption) | assumption); obtain ⟨bb, e361, bh, bd, bi, bj, bk, bl⟩ := at_T27 bL.out ba p361 q361; have bp := bl; have bq := bk; have br := bj; have bs := bi; have bg := bd; have bt := bh; (try rw [← Nbq8.out] at bd); (try rw [← Nbq8.out] at bg); (try rw [← Nbq8.out] at bg)
        cases e361
        replace bh := (HB.out.cell (World.block_lt_of_cell? w _ bh)).trans bh; replace bd := (HB.out.cell (World.block_lt_of_cell? w _ bd)).trans bd; replace bi := (HB.out.cell (World.block_lt_of_cell? w _ bi)).trans bi; replace bj := (HB.out.cell (World.block_lt_of_cell? w _ bj)).trans bj; replace bk := (HB.out.cell (World.block_lt_of_cell? w _ bk)).trans bk; replace bl := (HB.out.cell (World.block_lt_of_cell? w _ bl)).trans bl; replace p361 := eq_true p361; replace q361 := eq_true q361; have p362 : 0 ≤ (ba : Int) := of_decide_eq_true (by first | (with_reducible assumption) | assumption); have q362 : ba < (l1.length : Int) := of_decide_eq_true (by first | (with_reducible assumption) | assumption); obtain ⟨bX, e362, bu, bn, bv, bw, bx, bz⟩ := at_T27 bL.out ba p362 q362; have bA := bz; have bB := bx; have bC := bw; have bD := bv; have bo := bn; have bE := bu; (try rw [← Nbq8.out] at bn); (try rw [← Nbq8.out] at bo); (try rw [← Nbq8.out] at bo); obtain rfl : bb = bX := (by injection e362); replace bu := (HB.out.cell (World.block_lt_of_cell? w _ bu)).trans bu; replace bn := (HB.out.cell (World.block_lt_of_cell? w _ bn)).trans bn; replace bv := (HB.out.cell (World.block_lt_of_cell? w _ bv)).trans bv; replace bw := (HB.out.cell (World.block_lt_of_cell? w _ bw)).trans bw; replace bx := (HB.out.cell (World.block_lt_of_cell? w _ bx)).trans bx; replace bz := (HB.out.cell (World.block_lt_of_cell? w _ bz)).trans bz; replace p362 := eq_true p362; replace q362 := eq_true q362; refine start_ (n := 15) (S := fun w' => w'.cell? ⟨bm, 0, none⟩ = some (.int .i64 a0_0) ∧ w'.cell? ⟨bm, 1, none⟩ = some (.bool true) ∧ w'.cell? ⟨bm, 2, none⟩ = some (.int .i64 a0_2) ∧ w'.cell? ⟨bm, 3, none⟩ = some (.int .i64 a0_3) ∧ w'.cell? ⟨bm, 4, none⟩ = some (.int .i64 a0_4) ∧ w'.cell? ⟨bm, 5, none⟩ = some (.int .i64 a0_5) ∧ w'.cell? (bb.add ((ba).toNat * 6)) = some (.int .i64 ((rd_T27 l1 ba).f0)) ∧ w'.cell? ⟨(bb.add ((ba).toNat * 6)).block, (bb.add ((ba).toNat * 6)).off + 1, none⟩ = some (.bool true) ∧ w'.cell? ⟨(bb.add ((ba).toNat * 6)).block, (bb.add ((ba).toNat * 6)).off + 2, none⟩ = some (.int .i64 ((rd_T27 l1 ba).f2.f0)) ∧ w'.cell? ⟨(bb.add ((ba).toNat * 6)).block, (bb.add ((ba).toNat * 6)).off + 3, none⟩ = some (.int .i64 ((rd_T27 l1 ba).f2.f1)) ∧ w'.cell? ⟨(bb.add ((ba).toNat * 6)).block, (bb.add ((ba).toNat * 6)).off + 4, none⟩ = some (.int .i64 ((rd_T27 l1 ba).f2.f2)) ∧ w'.cell? ⟨(bb.add ((ba).toNat * 6)).block, (bb.add ((ba).toNat * 6)).off + 5, none⟩ = some (.int .i64 ((rd_T27 l1 ba).f2.f3)) ∧ w'.cell? (bb.add ((ba).toNat * 6)) = some (.int .i64 ((rd_T27 l1 ba).f0)) ∧ w'.cell? ⟨(bb.add ((ba).toNat * 6)).block, (bb.add ((ba).toNat * 6)).off + 1, none⟩ = some (.bool (true)) ∧ w'.cell? ⟨(bb.add ((ba).toNat * 6)).block, (bb.add ((ba).toNat * 6)).off + 2, none⟩ = some (.int .i64 ((rd_T27 l1 ba).f2.f0)) ∧ w'.cell? ⟨(bb.add ((ba).toNat * 6)).block, (bb.add ((ba).toNat * 6)).off + 3, none⟩ = some (.int .i64 ((rd_T27 l1 ba).f2.f1)) ∧ w'.cell? ⟨(bb.add ((ba).toNat * 6)).block, (bb.add ((ba).toNat * 6)).off + 4, none⟩ = some (.int .i64 ((rd_T27 l1 ba).f2.f2)) ∧ w'.cell? ⟨(bb.add ((ba).toNat * 6)).block, (bb.add ((ba).toNat * 6)).off + 5, none⟩ = some (.int .i64 ((rd_T27 l1 ba).f2.f3))) (ds := []) (ml [0, 15]) (by kernel_rfl) rfl rfl ⟨(blk_cell bc.out 0).trans rfl, (blk_cell bc.out 1).trans rfl, (blk_cell bc.out 2).trans rfl, (blk_cell bc.out 3).trans rfl, (blk_cell bc.out 4).trans rfl, (blk_cell bc.out 5).trans rfl, ((HB.out.cell (World.block_lt_of_cell? w _ bt)).trans bt), ((HB.out.cell (World.block_lt_of_cell? w _ bg)).trans bg), ((HB.out.cell (World.block_lt_of_cell? w _ bs)).trans bs), ((HB.out.cell (World.block_lt_of_cell? w _ br)).trans br), ((HB.out.cell (World.block_lt_of_cell? w _ bq)).trans bq), ((HB.out.cell (World.block_lt_of_cell? w _ bp)).trans bp), ((HB.out.cell (World.block_lt_of_cell? w _ bE)).trans bE), ((HB.out.cell (World.block_lt_of_cell? w _ bo)).trans bo), ((HB.out.cell (World.block_lt_of_cell? w _ bD)).trans bD), ((HB.out.cell (World.block_lt_of_cell? w _ bC)).trans bC), ((HB.out.cell (World.block_lt_of_cell? w _ bB)).trans bB), ((HB.out.cell (World.block_lt_of_cell? w _ bA)).trans bA)⟩ (fun hHeld => ?_); refine with_tabW spec_Unders.tab6 spec_Unders.bits6 (fun HT_ HW_ => ?_); generalize wr.drew = dJ at bc HB bh bd bi bj bk bl bu bn bv bw bx bz hHeld ⊢; refine rP HT_.out 0 15 (ml [1, 14]) ?_; refine rP HT_.out 1 16 (ml [2, 13]) ?_; refine rP HT_.out 2 17 (ml [3, 12]) ?_; refine rP HT_.out 3 18 (ml [4, 11]) ?_; refine rT HT_.out HW_.out hHeld 4 19 (ml [5, 10]) ?_; refine rP HT_.out 5 20 (ml [6, 9]) ?_; refine rP HT_.out 6 21 (ml [7, 8]) ?_; refine rP HT_.out 7 22 (ml [8, 7]) ?_; refine rP HT_.out 8 23 (ml [9, 6]) ?_; refine rP HT_.out 9 24 (ml [10, 5]) ?_; refine rP HT_.out 11 26 (ml [10, 1, 1, 3]) ?_; refine rT HT_.out HW_.out hHeld 10 25 (ml [12, 3]) ?_; refine rT HT_.out HW_.out hHeld 12 27 (ml [13, 2]) ?_; refine one_ (i := 13) (N := some 28) (ml [14, 1]) rfl rfl (one_of HT_.out (by kernel_rfl)) (by decide) (fun K hK => ?_); refine goesR Try.func33 (by kernel_rfl) rfl #[.agg #[.int .i64 ((rd_T27 l1 ba).f2.f0), .int .i64 ((rd_T27 l1 ba).f2.f1), .int .i64 ((rd_T27 l1 ba).f2.f2), .int .i64 ((rd_T27 l1 ba).f2.f3)], .agg #[.int .i64 a0_2, .int .i64 a0_3, .int .i64 a0_4, .int .i64 a0_5]] (by rfl) rfl rfl ?_; (with_reducible refine (spec_Covers.calls k1 ((rd_T27 l1 ba).f2.f0) ((rd_T27 l1 ba).f2.f1) ((rd_T27 l1 ba).f2.f2) ((rd_T27 l1 ba).f2.f3) a0_2 a0_3 a0_4 a0_5 false _ A10.out).mono ?_); rintro e dK ⟨rfl, hb⟩; refine ⟨_, rfl, ?_⟩; replace bc := nblk bc hb; replace HB := nbs HB hb; (try clear hb); refine hK.out _ _ ⟨(blk_cell bc.out 0).trans rfl, (blk_cell bc.out 1).trans rfl, (blk_cell bc.out 2).trans rfl, (blk_cell bc.out 3).trans rfl, (blk_cell bc.out 4).trans rfl, (blk_cell bc.out 5).trans rfl, ((HB.out.cell (World.block_lt_of_cell? w _ bt)).trans bt), ((HB.out.cell (World.block_lt_of_cell? w _ bg)).trans bg), ((HB.out.cell (World.block_lt_of_cell? w _ bs)).trans bs), ((HB.out.cell (World.block_lt_of_cell? w _ br)).trans br), ((HB.out.cell (World.block_lt_of_cell? w _ bq)).trans bq), ((HB.out.cell (World.block_lt_of_cell? w _ bp)).trans bp), ((HB.out.cell (World.block_lt_of_cell? w _ bE)).trans bE), ((HB.out.cell (World.block_lt_of_cell? w _ bo)).trans bo), ((HB.out.cell (World.block_lt_of_cell? w _ bD)).trans bD), ((HB.out.cell (World.block_lt_of_cell? w _ bC)).trans bC), ((HB.out.cell (World.block_lt_of_cell? w _ bB)).trans bB), ((HB.out.cell (World.block_lt_of_cell? w _ bA)).trans bA)⟩ (fun hHeld => ?_); clear hK K; refine norm_ (a' := ?_) ?_ ?_; rotate_left
        ·show Act.put _ (some 28) _ = _
         simp only [Act.put, List.setIfInBounds_toArray, List.set_cons_zero, List.set_cons_succ, i64_w, i32_w]; rfl
        refine rP HT_.out 14 29 (ml [15]) ?_; refine done_ (done_of HT_.out (by kernel_rfl)) ?_
        try go_wp2
        go_roundg k1
        case measure => have := bS.out; omega
        case rel => exact ⟨(wrap64 (ba + 1)), (by first | rfl | (simp; done) | (simp [*]; done)), H', ⟨by have := bS.out; omega⟩, ⟨nb bc⟩, ⟨nbe HB⟩⟩
      ·replace c9 := Bool.eq_false_iff.mpr c9
       subst c9; have H1 : (spec_Unders.l0 k1 l1 (wrap64 (ba + 1)) a0_0 true a0_2 a0_3 a0_4 a0_5) = some r := by rw [if_neg (show ¬ (false = true) by decide)] at H; exact H
       clear H; have H := H1; clear H1; have H' := Aside0.mk H; clear H
       try go_wp2
       replace bc := Aside0.mk (blk_drew bc.out); replace HB := Aside0.mk (below_drew1 HB.out); have p361 : 0 ≤ (ba : Int) := of_decide_eq_true (by first | (with_reducible assumption) | assumption); have q361 : ba < (l1.length : Int) := of_decide_eq_true (by first | (with_reducible assumption) | assumption); obtain ⟨bb, e361, bh, bd, bi, bj, bk, bl⟩ := at_T27 bL.out ba p361 q361; have bp := bl; have bq := bk; have br := bj; have bs := bi; have bg := bd; have bt := bh; (try rw [← Nbq8.out] at bd); (try rw [← Nbq8.out] at bg); (try rw [← Nbq8.out] at bg)
       cases e361
       replace bh := (HB.out.cell (World.block_lt_of_cell? w _ bh)).trans bh; replace bd := (HB.out.cell (World.block_lt_of_cell? w _ bd)).trans bd; replace bi := (HB.out.cell (World.block_lt_of_cell? w _ bi)).trans bi; replace bj := (HB.out.cell (World.block_lt_of_cell? w _ bj)).trans bj; replace bk := (HB.out.cell (World.block_lt_of_cell? w _ bk)).trans bk; replace bl := (HB.out.cell (World.block_lt_of_cell? w _ bl)).trans bl; replace p361 := eq_true p361; replace q361 := eq_true q361; refine start_ (n := 15) (S := fun w' => w'.cell? (bb.add ((ba).toNat * 6)) = some (.int .i64 ((rd_T27 l1 ba).f0)) ∧ w'.cell? ⟨(bb.add ((ba).toNat * 6)).block, (bb.add ((ba).toNat * 6)).off + 1, none⟩ = some (.bool false) ∧ w'.cell? ⟨(bb.add ((ba).toNat * 6)).block, (bb.add ((ba).toNat * 6)).off + 2, none⟩ = some (.int .i64 ((rd_T27 l1 ba).f2.f0)) ∧ w'.cell? ⟨(bb.add ((ba).toNat * 6)).block, (bb.add ((ba).toNat * 6)).off + 3, none⟩ = some (.int .i64 ((rd_T27 l1 ba).f2.f1)) ∧ w'.cell? ⟨(bb.add ((ba).toNat * 6)).block, (bb.add ((ba).toNat * 6)).off + 4, none⟩ = some (.int .i64 ((rd_T27 l1 ba).f2.f2)) ∧ w'.cell? ⟨(bb.add ((ba).toNat * 6)).block, (bb.add ((ba).toNat * 6)).off + 5, none⟩ = some (.int .i64 ((rd_T27 l1 ba).f2.f3))) (ds := []) (ml [0, 15]) (by kernel_rfl) rfl rfl ⟨((HB.out.cell (World.block_lt_of_cell? w _ bt)).trans bt), ((HB.out.cell (World.block_lt_of_cell? w _ bg)).trans bg), ((HB.out.cell (World.block_lt_of_cell? w _ bs)).trans bs), ((HB.out.cell (World.block_lt_of_cell? w _ br)).trans br), ((HB.out.cell (World.block_lt_of_cell? w _ bq)).trans bq), ((HB.out.cell (World.block_lt_of_cell? w _ bp)).trans bp)⟩ (fun hHeld => ?_); refine with_tabW spec_Unders.tab6 spec_Unders.bits6 (fun HT_ HW_ => ?_); generalize wr.drew = dL at bc HB bh bd bi bj bk bl hHeld ⊢; refine rP HT_.out 0 15 (ml [1, 14]) ?_; refine rP HT_.out 1 16 (ml [2, 13]) ?_; refine rP HT_.out 2 17 (ml [3, 12]) ?_; refine rP HT_.out 3 18 (ml [4, 11]) ?_; refine rT HT_.out HW_.out hHeld 4 19 (ml [5, 10]) ?_; refine rP HT_.out 5 20 (ml [6, 9]) ?_; refine rU HT_.out 6 21 (ml [7, 8]) ?_; refine rU HT_.out 7 22 (ml [8, 7]) ?_; refine rU HT_.out 8 23 (ml [9, 6]) ?_; refine rU HT_.out 9 24 (ml [10, 5]) ?_; refine rU HT_.out 10 25 (ml [11, 4]) ?_; refine rU HT_.out 11 26 (ml [12, 3]) ?_; refine rU HT_.out 12 27 (ml [13, 2]) ?_; refine rU HT_.out 13 28 (ml [14, 1]) ?_; refine rP HT_.out 14 29 (ml [15]) ?_; refine done_ (done_of HT_.out (by kernel_rfl)) ?_
       try go_wp2
       go_roundg k1
       case measure => have := bS.out; omega
       case rel => exact ⟨(wrap64 (ba + 1)), (by first | rfl | (simp; done) | (simp [*]; done)), H', ⟨by have := bS.out; omega⟩, ⟨nb bc⟩, ⟨nbe HB⟩⟩
     ·rw [if_neg c7] at H
      exact absurd H (by simp)
    ·rw [if_neg c6] at H
     have c6b0 : decide (ba < (l1.length : Int)) = false := decide_eq_false c6; clear c6; obtain rfl := Option.some.inj H; go_wp2
     go_ret
     exact ⟨er_, nbe HB⟩
 ·replace c3 := Bool.eq_false_iff.mpr c3
  subst c3; have H1 : (some true) = some r := by rw [if_neg (show ¬ (false = true) by decide)] at H; exact H
  clear H; have H := H1; clear H1; obtain rfl := Option.some.inj H
  go_enter Try.func38, Try.ntmps38
  go_wp2_with (first | ((with_reducible refine gate_dst (N := 2) rfl ?_); refine bxe 2 #[.int .i64 a0_0, .bool false, .int .i64 a0_2, .int .i64 a0_3, .int .i64 a0_4, .int .i64 a0_5] 27 ?_; intro bm hg dM hbox hb; have bc := hbox; have di := nge HB hg; have dj := nge HB hg; replace HB := nbs HB hb; clear hb hbox hg; obtain ⟨dN, dO, dP, dQ, dR, dS⟩ := c6e bc; obtain ⟨dT, dU, dV, dW, dX, dY⟩ := z6_ bc))
  go_ret
  exact ⟨er_, nbe HB⟩

/-! ### spec_DrawWordOk: function 39 -/
def spec_DrawWordOk.f (k : Nat) (l0 : List Int) : Option (Int × Bool × Int × Int × Int × Int) := (spec_l1New.f k l0).bind fun bH => ((spec_l3Draw.f k bH.1 bH.2.1 bH.2.2).bind fun bf => (some (bf.1, bf.2.1, bf.2.2.1, bf.2.2.2.1, bf.2.2.2.2.1, bf.2.2.2.2.2.1)))
theorem spec_DrawWordOk.mono : ∀ a0 k, LeO (spec_DrawWordOk.f k a0) (spec_DrawWordOk.f (k + 1) a0) := by
 intro a0 k
 unfold spec_DrawWordOk.f
 repeat' first
   | (with_reducible exact spec_l1New.mono _ _)
   | (with_reducible exact spec_l3Draw.mono _ _ _ _)
   | (with_reducible exact LeO.refl _)
   | (with_reducible exact LeO.none _)
   | (with_reducible refine LeO.ite ?_ ?_)
   | (with_reducible refine LeO.bind ?_ (fun _ => ?_))
   | exact spec_l1New.mono _ _
   | exact spec_l3Draw.mono _ _ _ _
   | exact LeO.none _
   | refine LeO.ite ?_ ?_
   | refine LeO.bind ?_ (fun _ => ?_)
set_option maxHeartbeats 8000000 in
set_option maxRecDepth 100000 in
theorem spec_DrawWordOk.calls (k : Nat) (A0 : Option Addr) (c0 : Nat) (l0 : List Int) (r1 : Int) (r2 : Bool) (r3 : Int) (r4 : Int) (r5 : Int) (r6 : Int) (w : World) (hr0 : Kd.C (Kd.int .u8) w A0 l0.length l0) (hc0 : l0.length ≤ c0) (h : spec_DrawWordOk.f k l0 = some (r1, r2, r3, r4, r5, r6)) :
  Calls Try.prog 39 #[.slice A0 l0.length c0] w fun e w' => e = .returned (.agg #[.int .i64 r1, .bool r2, .int .i64 r3, .int .i64 r4, .int .i64 r5, .int .i64 r6]) ∧ Below w.heap.size w w' := by
 have hu27 := Try.underlying27; have bY := Aside0.mk hr0; have bZ := Aside0.mk hc0; clear hr0 hc0; have HB := Aside0.mk (Below.refl w.heap.size w); have H : ((spec_l1New.f k l0).bind fun bH => ((spec_l3Draw.f k bH.1 bH.2.1 bH.2.2).bind fun bf => (some (bf.1, bf.2.1, bf.2.2.1, bf.2.2.2.1, bf.2.2.2.2.1, bf.2.2.2.2.2.1)))) = some (r1, r2, r3, r4, r5, r6) := h; clear h; replace H := Option.bind_eq_some_iff.mp H; obtain ⟨⟨b0, b1, b2⟩, A20, H⟩ := H; replace H : ((spec_l3Draw.f k b0 b1 b2).bind fun bf => (some (bf.1, bf.2.1, bf.2.2.1, bf.2.2.2.1, bf.2.2.2.2.1, bf.2.2.2.2.2.1))) = some (r1, r2, r3, r4, r5, r6) := H; have A2 := Aside0.mk A20; clear A20; replace H := Option.bind_eq_some_iff.mp H; obtain ⟨⟨b3, b4, b5, b6, b7, b8, dy, dz⟩, A30, H⟩ := H; replace H : (some (b3, b4, b5, b6, b7, b8)) = some (r1, r2, r3, r4, r5, r6) := H; have A3 := Aside0.mk A30; clear A30; simp only [Option.some.injEq, Prod.mk.injEq] at H; obtain ⟨rfl, rfl, rfl, rfl, rfl, rfl⟩ := H
 go_enter Try.func39, Try.ntmps39
 go_wp2_with (first | ((with_reducible refine gate_dst (N := 2) rfl ?_); refine bxe 2 #[.int .i64 0, .bool false, .int .i64 0, .int .i64 0, .int .i64 0, .int .i64 0] 27 ?_; intro bM hg w4 hbox hb; have bF := hbox; have dZ := nge HB hg; have d0 := nge HB hg; replace HB := nbs HB hb; clear hb hbox hg) | ((with_reducible refine gate_callee (f := 71) rfl ?_); refine goesM (some 4) rfl rfl Try.func71 (by kernel_rfl) rfl #[.slice A0 l0.length c0] rfl ?_; (with_reducible refine (spec_l1New.calls k _ _ l0 b0 b1 b2 w _ ?side1 ?side2 ?side3 A2.out).mono ?_); (case side1 => exact nbe HB); (case side2 => exact bY.out); (case side3 => exact bZ.out); rintro e w5 ⟨g368, rfl, hi, hb, hb2⟩; refine ⟨_, rfl, ?_⟩; have HI368 := Aside0.mk (hi); have dA := Aside0.mk (IsS90.ne_blk hi (blk_below (g := bM) (o := .cells #[.int .i64 0, .bool false, .int .i64 0, .int .i64 0, .int .i64 0, .int .i64 0] 27 (0, 0)) (nb bF) hb2) (by decide)); have dc := Aside0.mk (Ne.symm (IsS90.ne_blk hi (blk_below (g := bM) (o := .cells #[.int .i64 0, .bool false, .int .i64 0, .int .i64 0, .int .i64 0, .int .i64 0] 27 (0, 0)) (nb bF) hb2) (by decide))); replace bF := Aside0.mk (blk_below (g := bM) (o := .cells #[.int .i64 0, .bool false, .int .i64 0, .int .i64 0, .int .i64 0, .int .i64 0] 27 (0, 0)) (nb bF) hb2); replace HB := Aside0.mk (hb); (try clear hb)) | ((with_reducible refine gate_callee (f := 72) rfl ?_); refine goesM (some 5) rfl rfl Try.func72 (by kernel_rfl) rfl #[.pointer (some ⟨g368, 0, none⟩)] rfl ?_; (with_reducible refine (spec_l3Draw.calls k g368 b0 b1 b2 b3 b4 b5 b6 b7 b8 dy dz w _ ?side1 ?side2 A3.out).mono ?_); (case side1 => exact IsS90.n); (case side2 => exact IsS90.nb); rintro e w6 ⟨rfl, hi, hb, hk⟩; refine ⟨_, rfl, ?_⟩; replace bF := Aside0.mk (KeepBut.blk hk (g' := bM) (o := .cells #[.int .i64 0, .bool false, .int .i64 0, .int .i64 0, .int .i64 0, .int .i64 0] 27 (0, 0)) (nb bF) dc.out (by simp)); replace HB := Aside0.mk (hb); replace HI368 := Aside0.mk (hi); (try clear hb); have d1 := dc.out; have d2 := dA.out; obtain ⟨d3, d4, d5, d6, d7, d8⟩ := c6e bF; obtain ⟨d9, ea, eb, ec, ed, ee⟩ := z6_ bF))
 refine bodyPost_ret (results_cell_row rfl _ _ bM 27 #[.int .i64 b3, .bool b4, .int .i64 b5, .int .i64 b6, .int .i64 b7, .int .i64 b8] (0, 0) _ rfl (q6 bF) Try.underlying27 rfl (by kernel_rfl)) rfl ?_; exact ⟨er_, IsS90.nb⟩

/-! ### spec_DrawPlain: function 40 -/
def spec_DrawPlain.f (k : Nat) (l0 : List Int) : Option (Int) := (spec_l1New.f k l0).bind fun bI => ((spec_l1PickInt.f bI.1 bI.2.1 bI.2.2 (([0, 5, 65535, 65536, (-1), 9223372036854775807, (-9223372036854775808)] : List Int))).bind fun bJ => (some bJ.1))
theorem spec_DrawPlain.mono : ∀ a0 k, LeO (spec_DrawPlain.f k a0) (spec_DrawPlain.f (k + 1) a0) := by
 intro a0 k
 unfold spec_DrawPlain.f
 repeat' first
   | (with_reducible exact spec_l1New.mono _ _)
   | (with_reducible exact LeO.refl _)
   | (with_reducible exact LeO.none _)
   | (with_reducible refine LeO.ite ?_ ?_)
   | (with_reducible refine LeO.bind ?_ (fun _ => ?_))
   | exact spec_l1New.mono _ _
   | exact LeO.none _
   | refine LeO.ite ?_ ?_
   | refine LeO.bind ?_ (fun _ => ?_)
set_option maxHeartbeats 8000000 in
set_option maxRecDepth 100000 in
theorem spec_DrawPlain.calls (k : Nat) (A0 : Option Addr) (c0 : Nat) (l0 : List Int) (r : Int) (w : World) (hr0 : Kd.C (Kd.int .u8) w A0 l0.length l0) (hc0 : l0.length ≤ c0) (h : spec_DrawPlain.f k l0 = some r) :
  Calls Try.prog 40 #[.slice A0 l0.length c0] w fun e w' => e = .returned (.int .i64 r) ∧ Below w.heap.size w w' := by
 have bY := Aside0.mk hr0; have bZ := Aside0.mk hc0; clear hr0 hc0; have HB := Aside0.mk (Below.refl w.heap.size w); have H : ((spec_l1New.f k l0).bind fun bI => ((spec_l1PickInt.f bI.1 bI.2.1 bI.2.2 (([0, 5, 65535, 65536, (-1), 9223372036854775807, (-9223372036854775808)] : List Int))).bind fun bJ => (some bJ.1))) = some r := h; clear h; replace H := Option.bind_eq_some_iff.mp H; obtain ⟨⟨bN, bO, bP⟩, A20, H⟩ := H; replace H : ((spec_l1PickInt.f bN bO bP (([0, 5, 65535, 65536, (-1), 9223372036854775807, (-9223372036854775808)] : List Int))).bind fun bJ => (some bJ.1)) = some r := H; have A2 := Aside0.mk A20; clear A20; obtain ⟨b9, bQ⟩ : ∃ y_ : List Int, y_ = (([0, 5, 65535, 65536, (-1), 9223372036854775807, (-9223372036854775808)] : List Int)) := ⟨_, rfl⟩; replace H : ((spec_l1PickInt.f bN bO bP b9).bind fun bJ => (some bJ.1)) = some r := by first | (rw [bQ]; with_reducible exact H) | (have H2_ := (Option.bind_some _ _).symm.trans H; rw [bQ]; with_reducible exact H2_) | (have H2_ := (Option.bind_some _ _).symm.trans H; with_reducible exact H2_) | with_reducible exact H | (rw [bQ]; exact H) | exact H
 have dd := Aside0.mk bQ; clear bQ; replace H := Option.bind_eq_some_iff.mp H; obtain ⟨⟨de, dB, dC⟩, A30, H⟩ := H; replace H : (some de) = some r := H; have A3 := Aside0.mk A30; clear A30; obtain rfl := Option.some.inj H
 go_enter Try.func40, Try.ntmps40
 go_wp2_with (first | ((with_reducible refine gate_callee (f := 71) rfl ?_); refine goesM (some 4) rfl rfl Try.func71 (by kernel_rfl) rfl #[.slice A0 l0.length c0] rfl ?_; (with_reducible refine (spec_l1New.calls k _ _ l0 bN bO bP w _ ?side1 ?side2 ?side3 A2.out).mono ?_); (case side1 => exact nbe HB); (case side2 => exact bY.out); (case side3 => exact bZ.out); rintro e w4 ⟨g380, rfl, hi, hb, hb2⟩; refine ⟨_, rfl, ?_⟩; have HI380 := Aside0.mk (hi); replace HB := Aside0.mk (hb); (try clear hb)) | ((with_reducible refine gate_dst (N := 5) rfl ?_); refine Kd.R_lit (Kd.int .i64) _ 3 ?hg (N := 5) ?hd (xs := ([0, 5, 65535, 65536, (-1), 9223372036854775807, (-9223372036854775808)] : List Int)) (inner := [.int .i64 0, .int .i64 5, .int .i64 65535, .int .i64 65536, .int .i64 (-1), .int .i64 9223372036854775807, .int .i64 (-9223372036854775808)]) (ok := fun _ => True) (okp := fun _ => True) ?hr ?hp (fun _ hk => hk) trivial (Below.refl _ _) (Nat.le_refl _) (by simp) ?_; (case hd => rfl); (case hg => rfl); (case hr => first | (go_simp; done) | (go_simp; rfl)); (case hp => exact (Reps.one (show Kd.M (Kd.int .i64) _ _ _ 0 [.int .i64 0] from rfl) (Reps.one (show Kd.M (Kd.int .i64) _ _ _ 5 [.int .i64 5] from rfl) (Reps.one (show Kd.M (Kd.int .i64) _ _ _ 65535 [.int .i64 65535] from rfl) (Reps.one (show Kd.M (Kd.int .i64) _ _ _ 65536 [.int .i64 65536] from rfl) (Reps.one (show Kd.M (Kd.int .i64) _ _ _ (-1) [.int .i64 (-1)] from rfl) (Reps.one (show Kd.M (Kd.int .i64) _ _ _ 9223372036854775807 [.int .i64 9223372036854775807] from rfl) (Reps.one (show Kd.M (Kd.int .i64) _ _ _ (-9223372036854775808) [.int .i64 (-9223372036854775808)] from rfl) (Reps.none _ _))))))))); intro ef w5 bR hb hg_ hnew_; clear hg_ hnew_; (first | rw [← dd.out] at bR | (simp only [Int.reduceToNat] at bR; rw [← dd.out] at bR)); have df := Aside0.mk (Kd.R_lower bR (below_size (IsS90.nb))); have dg := Aside0.mk (IsS90.below (IsS90.n) hb); have dh := Aside0.mk (below_step (IsS90.nb) hb); clear HI380 HB; have bK := df; have HI380 := dg; have HB := dh; clear df dg dh; clear hb bR; obtain ⟨dD, dE, dF⟩ := Kd.R_slice bK.out; subst dF) | ((with_reducible refine gate_callee (f := 87) rfl ?_); refine goesM (some 6) rfl rfl Try.func87 (by kernel_rfl) rfl #[.pointer (some ⟨g380, 0, none⟩), .slice dD b9.length dE] rfl ?_; (with_reducible refine (spec_l1PickInt.calls g380 bN bO bP _ _ b9 de dB dC w _ ?side1 ?side2 ?side3 ?side4 ?side5 A3.out).mono ?_); (case side1 => exact IsS90.n); (case side2 => exact IsS90.nb); (case side3 => repeat (first | exact (Kd.R_reads' bK.out).2.2 | (with_reducible refine Kd.C_alloc ?_ _) | (with_reducible refine Kd.C_drewN ?_ _) | (with_reducible refine Kd.C_drew ?_))); (case side4 => exact (Kd.R_reads' bK.out).2.1); (case side5 => exact far_slice (IsS90.own_ne HI380.out bK.out (by decide))); rintro e w8 ⟨rfl, hi, hb, hk⟩; refine ⟨_, rfl, ?_⟩; replace bK := Aside0.mk (Kd.R_mono (Kd.R_keep (IsS90.apart (show IsS90 w _ g380 bN bO bP from IsS90.n) (nRo bK) (by decide)) hk (fun _ h => h.2)) (fun _ h => h.1)); replace HB := Aside0.mk (hb); replace HI380 := Aside0.mk (hi); (try clear hb)))
 go_ret
 exact ⟨er_, IsS90.nb⟩

end Go.Proofs.Ytiliggbholjdjaa.PFnWords
