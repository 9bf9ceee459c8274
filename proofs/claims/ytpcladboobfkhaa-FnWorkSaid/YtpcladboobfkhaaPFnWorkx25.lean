-- Written by a program of this session (wip/patch.py turns a copy of the kit's print): the functions that the law reaches, and their walks.
import Derived.Test.YtpcladboobfkhaaPFnWorkx0
import Derived.Test.YtpcladboobfkhaaPFnWorkx4
import Derived.Test.YtpcladboobfkhaaPFnWorkx17
import Derived.Test.YtpcladboobfkhaaCFnWork
namespace Go.Proofs.Ytpcladboobfkhaa.PFnWork
open Go.RowKit Go.Proofs.YtpcladboobfkhaaW.PrintWords Go.Proofs.YtpcladboobfkhaaW.PrintLast Go.Proofs.YtpcladboobfkhaaW.PrintMore Go.Proofs.YtpcladboobfkhaaW.Mine
attribute [local go_sem] max2_int min2_int max_two min_two max_three min_three max_four min_four   -- for this text's walks alone
set_option linter.unusedVariables false
set_option linter.unusedSimpArgs false

/-! ### spec_MemoryOk: function 93 -/
mutual
def spec_MemoryOk.j0 : Nat → Bool → List (S29) → List Bool → Option (Bool)
 | 0, _, _, _ => none
 | k + 1, b3, bg, bB => if b3 = true then (some false) else (spec_MemoryOk.l0 k 0 bg bB)
def spec_MemoryOk.l0 : Nat → Int → List (S29) → List Bool → Option (Bool)
 | 0, _, _, _ => none
 | k + 1, x3, bg, bB => if x3 < 24 then (if 0 ≤ x3 then (if x3 < (bg.length : Int) then ((spec_WordOk.f k ((rd_T29 bg x3).f0) ((rd_T29 bg x3).f1) ((rd_T29 bg x3).f2.f0) ((rd_T29 bg x3).f2.f1) ((rd_T29 bg x3).f2.f2) ((rd_T29 bg x3).f2.f3)).bind fun bw => (if bw = true then (spec_MemoryOk.l0 k (wrap64 (x3 + 1)) bg bB) else (some false))) else (none)) else (none)) else (some true)
end
def spec_MemoryOk.f (k : Nat) (l0_0 : List (S29)) (l0_1 : List Bool) : Option (Bool) := if (l0_0.length : Int) = 24 then (spec_MemoryOk.j0 k ((l0_1.length : Int) != 24) l0_0 l0_1) else (spec_MemoryOk.j0 k true l0_0 l0_1)
theorem spec_MemoryOk.mono_l : ∀ k, (∀ y0 y1 y2, LeO (spec_MemoryOk.j0 k y0 y1 y2) (spec_MemoryOk.j0 (k + 1) y0 y1 y2)) ∧ (∀ y0 y1 y2, LeO (spec_MemoryOk.l0 k y0 y1 y2) (spec_MemoryOk.l0 (k + 1) y0 y1 y2))
 | 0 => ⟨fun _ _ _ r h => by simp [spec_MemoryOk.j0] at h, fun _ _ _ r h => by simp [spec_MemoryOk.l0] at h⟩
 | k + 1 => by
  obtain ⟨ih0, ih1⟩ := spec_MemoryOk.mono_l k; refine ⟨?_, ?_⟩
  ·intro y0 y1 y2
   unfold spec_MemoryOk.j0
   repeat' first
   | (with_reducible exact ih0 _ _ _)
   | (with_reducible exact ih1 _ _ _)
   | (with_reducible exact spec_WordOk.mono _ _ _ _ _ _ _)
   | (with_reducible exact LeO.refl _)
   | (with_reducible exact LeO.none _)
   | (with_reducible refine LeO.ite ?_ ?_)
   | (with_reducible refine LeO.bind ?_ (fun _ => ?_))
   | exact ih0 _ _ _
   | exact ih1 _ _ _
   | exact spec_WordOk.mono _ _ _ _ _ _ _
   | exact LeO.none _
   | refine LeO.ite ?_ ?_
   | refine LeO.bind ?_ (fun _ => ?_)
  ·intro y0 y1 y2
   unfold spec_MemoryOk.l0
   repeat' first
   | (with_reducible exact ih0 _ _ _)
   | (with_reducible exact ih1 _ _ _)
   | (with_reducible exact spec_WordOk.mono _ _ _ _ _ _ _)
   | (with_reducible exact LeO.refl _)
   | (with_reducible exact LeO.none _)
   | (with_reducible refine LeO.ite ?_ ?_)
   | (with_reducible refine LeO.bind ?_ (fun _ => ?_))
   | exact ih0 _ _ _
   | exact ih1 _ _ _
   | exact spec_WordOk.mono _ _ _ _ _ _ _
   | exact LeO.none _
   | refine LeO.ite ?_ ?_
   | refine LeO.bind ?_ (fun _ => ?_)
theorem spec_MemoryOk.mono : ∀ a0 a1 k, LeO (spec_MemoryOk.f k a0 a1) (spec_MemoryOk.f (k + 1) a0 a1) := by
 intro a0 a1 k; obtain ⟨ih0, ih1⟩ := spec_MemoryOk.mono_l k
 unfold spec_MemoryOk.f
 repeat' first
   | (with_reducible exact ih0 _ _ _)
   | (with_reducible exact ih1 _ _ _)
   | (with_reducible exact spec_WordOk.mono _ _ _ _ _ _ _)
   | (with_reducible exact LeO.refl _)
   | (with_reducible exact LeO.none _)
   | (with_reducible refine LeO.ite ?_ ?_)
   | (with_reducible refine LeO.bind ?_ (fun _ => ?_))
   | exact ih0 _ _ _
   | exact ih1 _ _ _
   | exact spec_WordOk.mono _ _ _ _ _ _ _
   | exact LeO.none _
   | refine LeO.ite ?_ ?_
   | refine LeO.bind ?_ (fun _ => ?_)
set_option maxHeartbeats 8000000 in
set_option maxRecDepth 100000 in
theorem spec_MemoryOk.calls (k : Nat) (A0_0 : Option Addr) (c0_0 : Nat) (l0_0 : List (S29)) (A0_1 : Option Addr) (c0_1 : Nat) (l0_1 : List Bool) (r : Bool) (w : World) (hr0_0 : Kd.C k29 w A0_0 l0_0.length l0_0) (hc0_0 : l0_0.length ≤ c0_0) (hr0_1 : Kd.C Kd.bool w A0_1 l0_1.length l0_1) (hc0_1 : l0_1.length ≤ c0_1) (h : spec_MemoryOk.f k l0_0 l0_1 = some r) :
  Calls Try.prog 93 #[.agg #[.slice A0_0 l0_0.length c0_0, .slice A0_1 l0_1.length c0_1]] w fun e w' => e = .returned (.bool r) ∧ Below w.heap.size w w' := by
 have hu58 := Try.underlying58; have hu29 := Try.underlying29; have bv := Aside0.mk hr0_0; have b4 := Aside0.mk hc0_0; clear hr0_0 hc0_0; have b9 := Aside0.mk hr0_1; have da := Aside0.mk hc0_1; clear hr0_1 hc0_1; have HB := Aside0.mk (Below.refl w.heap.size w); have H : (if (l0_0.length : Int) = 24 then (spec_MemoryOk.j0 k ((l0_1.length : Int) != 24) l0_0 l0_1) else (spec_MemoryOk.j0 k true l0_0 l0_1)) = some r := h; clear h; have bC := Aside0.mk H; clear H
 go_enter Try.func93, Try.ntmps93
 go_upto_region 1 with (first | ((with_reducible refine gate_dst (N := 1) rfl ?_); (try (refine gate_guard (by rfl) ?_; dsimp only)); refine bxe 1 #[.slice A0_0 l0_0.length c0_0, .slice A0_1 l0_1.length c0_1] 58 ?_; intro bE hg w3 hbox hb; have bd := hbox; have db := nge HB hg; have dc := nge HB hg; replace HB := nbs HB hb; clear hb hbox hg))
 (try simp only [Act.put, List.setIfInBounds_toArray, List.set_cons_zero, List.set_cons_succ])
 go_cut [13] (fun b5 wc => ∃ (kq : Nat) (bx : Bool), b5 = .bool bx ∧ Aside0 (spec_MemoryOk.j0 kq bx l0_0 l0_1 = some r) ∧ Aside0 (kq ≤ k) ∧ Aside0 (wc.heap[bE]? = some (.cells #[(.slice A0_0 l0_0.length c0_0), (.slice A0_1 l0_1.length c0_1)] 58 (0, 0))) ∧ Aside0 (Below w.heap.size w wc))
 case first =>
  have H := bC.out; clear bC
  by_cases c4 : (l0_0.length : Int) = 24
  ·rw [if_pos c4] at H
   have c4b0 : ((l0_0.length : Int) == 24) = true := beq_iff_eq.mpr c4; have c4b1 : ((l0_0.length : Int) != 24) = false := bne_eq_false_iff_eq.mpr c4; clear c4; (first | rw [c4b0] | (simp only [i64_w, i32_w]; rw [c4b0]) | skip); have H' := Aside0.mk H; clear H; obtain ⟨bF, bG⟩ := c2e bd; obtain ⟨bH, bI⟩ := z2_ bd; go_wp2
   go_meet
   case rel => exact ⟨_, (((l0_1.length : Int) != 24)), (by first | rfl | (simp; done) | (simp [*]; done)), H', ⟨by first | omega | exact Nat.le_refl _⟩, ⟨nb bd⟩, ⟨nbe HB⟩⟩
  ·rw [if_neg c4] at H
   have c4b0 : ((l0_0.length : Int) == 24) = false := beq_eq_false_iff_ne.mpr c4; have c4b1 : ((l0_0.length : Int) != 24) = true := bne_iff_ne.mpr c4; (first | rw [c4b0] | (simp only [i64_w, i32_w]; rw [c4b0]) | skip); have H' := Aside0.mk H; clear H; obtain ⟨bJ, bK⟩ := c2e bd; obtain ⟨bL, bM⟩ := z2_ bd; go_wp2
   go_meet
   case rel => exact ⟨_, (true), (by first | rfl | (simp; done) | (simp [*]; done)), H', ⟨by first | omega | exact Nat.le_refl _⟩, ⟨nb bd⟩, ⟨nbe HB⟩⟩
 case rest =>
  clear bC; try clear p2
  try clear c4
  try clear c4b0
  try clear c4b1
  try clear bF
  try clear bG
  try clear bJ
  try clear bK
  try clear bH
  try clear bI
  try clear bL
  try clear bM
  obtain ⟨kq, bx, rfl, HA, bN, bd, HB⟩ := hcut
  cases kq with
  | zero => exact absurd HA.out (by simp [spec_MemoryOk.j0])
  | succ kj1 =>
   have H := HA.out; clear HA; simp only [spec_MemoryOk.j0] at H
   by_cases c7 : bx = true
   ·subst c7
    have H1 : (some false) = some r := by rw [if_pos rfl] at H; exact H
    clear H; have H := H1; clear H1; obtain rfl := Option.some.inj H; go_wp2
    go_ret
    exact ⟨er_, nbe HB⟩
   ·replace c7 := Bool.eq_false_iff.mpr c7
    subst c7; have H1 : (spec_MemoryOk.l0 kj1 0 l0_0 l0_1) = some r := by rw [if_neg (show ¬ (false = true) by decide)] at H; exact H
    clear H; have H := H1; clear H1; have H' := Aside0.mk H; clear H; go_wp2
    go_loopg [3] kj1 (fun kq v3 w' => ∃ (ba : Int), v3 = .int .i64 ba ∧ Aside0 (spec_MemoryOk.l0 kq ba l0_0 l0_1 = some r) ∧ Aside0 (kq ≤ kj1) ∧ Aside0 (w'.heap[bE]? = some (.cells #[(.slice A0_0 l0_0.length c0_0), (.slice A0_1 l0_1.length c0_1)] 58 (0, 0))) ∧ Aside0 (Below w.heap.size w w'))
    case atStart => exact ⟨(0), (by first | rfl | (simp; done) | (simp [*]; done)), H', ⟨Nat.le_refl _⟩, ⟨nb bd⟩, ⟨nbe HB⟩⟩
    case round =>
     clear H'; try clear p2
     try clear c4
     try clear c4b0
     try clear c4b1
     try clear c7
     try clear bF
     try clear bG
     try clear bJ
     try clear bK
     try clear bH
     try clear bI
     try clear bL
     try clear bM
     try clear p2
     obtain ⟨ba, rfl, HA, bO, bd, HB⟩ := hrel
     cases gk with
     | zero => exact absurd HA.out (by simp [spec_MemoryOk.l0])
     | succ k2 =>
      have H := HA.out; clear HA; simp only [spec_MemoryOk.l0] at H
      by_cases c8 : ba < 24
      ·rw [if_pos c8] at H
       have c8b0 : decide (ba < 24) = true := decide_eq_true c8; clear c8
       by_cases c9 : 0 ≤ ba
       ·rw [if_pos c9] at H
        have c9b0 : decide (0 ≤ ba) = true := decide_eq_true c9; clear c9
        by_cases c10 : ba < (l0_0.length : Int)
        ·rw [if_pos c10] at H
         have c10b0 : decide (ba < (l0_0.length : Int)) = true := decide_eq_true c10; clear c10; replace H := Option.bind_eq_some_iff.mp H; obtain ⟨bw, A110, H⟩ := H; replace H : (if bw = true then (spec_MemoryOk.l0 k2 (wrap64 (ba + 1)) l0_0 l0_1) else (some false)) = some r := H; have A11 := Aside0.mk A110; clear A110
         by_cases c12 : bw = true
         ·subst c12
          have H1 : (spec_MemoryOk.l0 k2 (wrap64 (ba + 1)) l0_0 l0_1) = some r := by rw [if_pos rfl] at H; exact H
          clear H; have H := H1; clear H1; have H' := Aside0.mk H; clear H; obtain ⟨dd, de⟩ := c2e bd; obtain ⟨df, dg⟩ := z2_ bd; have p1298 : 0 ≤ (ba : Int) := of_decide_eq_true (by first | (with_reducible assumption) | assumption); have q1298 : ba < (l0_0.length : Int) := of_decide_eq_true (by first | (with_reducible assumption) | assumption); obtain ⟨b6, e1298, bj, bk, bl, bm, bn, bo⟩ := at_T29 bv.out ba p1298 q1298
          cases e1298
          replace bj := (HB.out.cell (World.block_lt_of_cell? w _ bj)).trans bj; replace bk := (HB.out.cell (World.block_lt_of_cell? w _ bk)).trans bk; replace bl := (HB.out.cell (World.block_lt_of_cell? w _ bl)).trans bl; replace bm := (HB.out.cell (World.block_lt_of_cell? w _ bm)).trans bm; replace bn := (HB.out.cell (World.block_lt_of_cell? w _ bn)).trans bn; replace bo := (HB.out.cell (World.block_lt_of_cell? w _ bo)).trans bo; replace p1298 := eq_true p1298; replace q1298 := eq_true q1298
          go_wp2_with (first | ((with_reducible refine gate_callee (f := 11) rfl ?_); refine goesM (some 23) rfl rfl Try.func11 (by kernel_rfl) rfl #[.agg #[.int .i64 ((rd_T29 l0_0 ba).f0), .bool ((rd_T29 l0_0 ba).f1), .int .i64 ((rd_T29 l0_0 ba).f2.f0), .int .i64 ((rd_T29 l0_0 ba).f2.f1), .int .i64 ((rd_T29 l0_0 ba).f2.f2), .int .i64 ((rd_T29 l0_0 ba).f2.f3)]] rfl ?_; (with_reducible refine (spec_WordOk.calls k2 ((rd_T29 l0_0 ba).f0) ((rd_T29 l0_0 ba).f1) ((rd_T29 l0_0 ba).f2.f0) ((rd_T29 l0_0 ba).f2.f1) ((rd_T29 l0_0 ba).f2.f2) ((rd_T29 l0_0 ba).f2.f3) true _ A11.out).mono ?_); rintro e dh ⟨rfl, hb⟩; refine ⟨_, rfl, ?_⟩; replace bd := nblk bd hb; replace HB := nbs HB hb; (try clear hb)))
          go_roundg k2
          case measure => have := bN.out; have := bO.out; omega
          case rel => exact ⟨(wrap64 (ba + 1)), (by first | rfl | (simp; done) | (simp [*]; done)), H', ⟨by have := bN.out; have := bO.out; omega⟩, ⟨nb bd⟩, ⟨nbe HB⟩⟩
         ·replace c12 := Bool.eq_false_iff.mpr c12
          subst c12; have H1 : (some false) = some r := by rw [if_neg (show ¬ (false = true) by decide)] at H; exact H
          clear H; have H := H1; clear H1; obtain rfl := Option.some.inj H; obtain ⟨di, dj⟩ := c2e bd; obtain ⟨dk, dl⟩ := z2_ bd; have p1298 : 0 ≤ (ba : Int) := of_decide_eq_true (by first | (with_reducible assumption) | assumption); have q1298 : ba < (l0_0.length : Int) := of_decide_eq_true (by first | (with_reducible assumption) | assumption); obtain ⟨b6, e1298, bj, bk, bl, bm, bn, bo⟩ := at_T29 bv.out ba p1298 q1298
          cases e1298
          replace bj := (HB.out.cell (World.block_lt_of_cell? w _ bj)).trans bj; replace bk := (HB.out.cell (World.block_lt_of_cell? w _ bk)).trans bk; replace bl := (HB.out.cell (World.block_lt_of_cell? w _ bl)).trans bl; replace bm := (HB.out.cell (World.block_lt_of_cell? w _ bm)).trans bm; replace bn := (HB.out.cell (World.block_lt_of_cell? w _ bn)).trans bn; replace bo := (HB.out.cell (World.block_lt_of_cell? w _ bo)).trans bo; replace p1298 := eq_true p1298; replace q1298 := eq_true q1298
          go_wp2_with (first | ((with_reducible refine gate_callee (f := 11) rfl ?_); refine goesM (some 23) rfl rfl Try.func11 (by kernel_rfl) rfl #[.agg #[.int .i64 ((rd_T29 l0_0 ba).f0), .bool ((rd_T29 l0_0 ba).f1), .int .i64 ((rd_T29 l0_0 ba).f2.f0), .int .i64 ((rd_T29 l0_0 ba).f2.f1), .int .i64 ((rd_T29 l0_0 ba).f2.f2), .int .i64 ((rd_T29 l0_0 ba).f2.f3)]] rfl ?_; (with_reducible refine (spec_WordOk.calls k2 ((rd_T29 l0_0 ba).f0) ((rd_T29 l0_0 ba).f1) ((rd_T29 l0_0 ba).f2.f0) ((rd_T29 l0_0 ba).f2.f1) ((rd_T29 l0_0 ba).f2.f2) ((rd_T29 l0_0 ba).f2.f3) false _ A11.out).mono ?_); rintro e dm ⟨rfl, hb⟩; refine ⟨_, rfl, ?_⟩; replace bd := nblk bd hb; replace HB := nbs HB hb; (try clear hb)))
          go_ret
          exact ⟨er_, nbe HB⟩
        ·rw [if_neg c10] at H
         exact absurd H (by simp)
       ·rw [if_neg c9] at H
        exact absurd H (by simp)
      ·rw [if_neg c8] at H
       have c8b0 : decide (ba < 24) = false := decide_eq_false c8; clear c8; obtain rfl := Option.some.inj H; go_wp2
       go_ret
       exact ⟨er_, nbe HB⟩

/-! ### spec_StateOk: function 88 -/
def spec_StateOk.l0 : Nat → Int → List (S29) → Int → Bool → Int → Int → Int → Int → List (S29) → List Bool → Int → Option (Bool)
 | 0, _, _, _, _, _, _, _, _, _, _, _ => none
 | k + 1, x3, bh, bP, bQ, bR, bS, bT, bU, bV, bW, bX => if x3 < (bh.length : Int) then (if 0 ≤ x3 then ((spec_WordOk.f k ((rd_T29 bh x3).f0) ((rd_T29 bh x3).f1) ((rd_T29 bh x3).f2.f0) ((rd_T29 bh x3).f2.f1) ((rd_T29 bh x3).f2.f2) ((rd_T29 bh x3).f2.f3)).bind fun bz => (if bz = true then (spec_StateOk.l0 k (wrap64 (x3 + 1)) bh bP bQ bR bS bT bU bV bW bX) else (some false))) else (none)) else (if (bh.length : Int) = 8 then ((spec_WordOk.f k bP bQ bR bS bT bU).bind fun bA => (if bA = true then ((spec_MemoryOk.f k bV bW).bind fun bi => (if bi = true then ((spec_l1In.f bX 0 5).bind fun bf => (some bf)) else (some false))) else (some false))) else (some false))
def spec_StateOk.f (k : Nat) (l0_0 : List (S29)) (a0_1 : Int) (a0_2 : Bool) (a0_3 : Int) (a0_4 : Int) (a0_5 : Int) (a0_6 : Int) (l0_7 : List (S29)) (l0_8 : List Bool) (a0_9 : Int) : Option (Bool) := spec_StateOk.l0 k 0 l0_0 a0_1 a0_2 a0_3 a0_4 a0_5 a0_6 l0_7 l0_8 a0_9
theorem spec_StateOk.mono_l : ∀ k, (∀ y0 y1 y2 y3 y4 y5 y6 y7 y8 y9 bD, LeO (spec_StateOk.l0 k y0 y1 y2 y3 y4 y5 y6 y7 y8 y9 bD) (spec_StateOk.l0 (k + 1) y0 y1 y2 y3 y4 y5 y6 y7 y8 y9 bD))
 | 0 => fun _ _ _ _ _ _ _ _ _ _ _ r h => by simp [spec_StateOk.l0] at h
 | k + 1 => by
  have ih0 := spec_StateOk.mono_l k
  ·intro y0 y1 y2 y3 y4 y5 y6 y7 y8 y9 bD
   unfold spec_StateOk.l0
   repeat' first
   | (with_reducible exact ih0 _ _ _ _ _ _ _ _ _ _ _)
   | (with_reducible exact spec_MemoryOk.mono _ _ _)
   | (with_reducible exact spec_WordOk.mono _ _ _ _ _ _ _)
   | (with_reducible exact LeO.refl _)
   | (with_reducible exact LeO.none _)
   | (with_reducible refine LeO.ite ?_ ?_)
   | (with_reducible refine LeO.bind ?_ (fun _ => ?_))
   | exact ih0 _ _ _ _ _ _ _ _ _ _ _
   | exact spec_MemoryOk.mono _ _ _
   | exact spec_WordOk.mono _ _ _ _ _ _ _
   | exact LeO.none _
   | refine LeO.ite ?_ ?_
   | refine LeO.bind ?_ (fun _ => ?_)
theorem spec_StateOk.mono : ∀ a0 a1 a2 a3 a4 a5 a6 a7 a8 a9 k, LeO (spec_StateOk.f k a0 a1 a2 a3 a4 a5 a6 a7 a8 a9) (spec_StateOk.f (k + 1) a0 a1 a2 a3 a4 a5 a6 a7 a8 a9) := by
 intro a0 a1 a2 a3 a4 a5 a6 a7 a8 a9 k; have ih0 := spec_StateOk.mono_l k
 unfold spec_StateOk.f
 repeat' first
   | (with_reducible exact ih0 _ _ _ _ _ _ _ _ _ _ _)
   | (with_reducible exact spec_MemoryOk.mono _ _ _)
   | (with_reducible exact spec_WordOk.mono _ _ _ _ _ _ _)
   | (with_reducible exact LeO.refl _)
   | (with_reducible exact LeO.none _)
   | (with_reducible refine LeO.ite ?_ ?_)
   | (with_reducible refine LeO.bind ?_ (fun _ => ?_))
   | exact ih0 _ _ _ _ _ _ _ _ _ _ _
   | exact spec_MemoryOk.mono _ _ _
   | exact spec_WordOk.mono _ _ _ _ _ _ _
   | exact LeO.none _
   | refine LeO.ite ?_ ?_
   | refine LeO.bind ?_ (fun _ => ?_)
set_option maxHeartbeats 8000000 in
set_option maxRecDepth 100000 in
theorem spec_StateOk.calls (k : Nat) (A0_0 : Option Addr) (c0_0 : Nat) (l0_0 : List (S29)) (a0_1 : Int) (a0_2 : Bool) (a0_3 : Int) (a0_4 : Int) (a0_5 : Int) (a0_6 : Int) (A0_7 : Option Addr) (c0_7 : Nat) (l0_7 : List (S29)) (A0_8 : Option Addr) (c0_8 : Nat) (l0_8 : List Bool) (a0_9 : Int) (r : Bool) (w : World) (hr0_0 : Kd.C k29 w A0_0 l0_0.length l0_0) (hc0_0 : l0_0.length ≤ c0_0) (hr0_7 : Kd.C k29 w A0_7 l0_7.length l0_7) (hc0_7 : l0_7.length ≤ c0_7) (hr0_8 : Kd.C Kd.bool w A0_8 l0_8.length l0_8) (hc0_8 : l0_8.length ≤ c0_8) (h : spec_StateOk.f k l0_0 a0_1 a0_2 a0_3 a0_4 a0_5 a0_6 l0_7 l0_8 a0_9 = some r) :
  Calls Try.prog 88 #[.agg #[.slice A0_0 l0_0.length c0_0, .int .i64 a0_1, .bool a0_2, .int .i64 a0_3, .int .i64 a0_4, .int .i64 a0_5, .int .i64 a0_6, .slice A0_7 l0_7.length c0_7, .slice A0_8 l0_8.length c0_8, .int .i64 a0_9]] w fun e w' => e = .returned (.bool r) ∧ Below w.heap.size w w' := by
 have hu60 := Try.underlying60; have hu29 := Try.underlying29; have hu58 := Try.underlying58; have bv := Aside0.mk hr0_0; have b4 := Aside0.mk hc0_0; clear hr0_0 hc0_0; have bY := Aside0.mk hr0_7; have bZ := Aside0.mk hc0_7; clear hr0_7 hc0_7; have b0 := Aside0.mk hr0_8; have b1 := Aside0.mk hc0_8; clear hr0_8 hc0_8; have HB := Aside0.mk (Below.refl w.heap.size w); have H : (spec_StateOk.l0 k 0 l0_0 a0_1 a0_2 a0_3 a0_4 a0_5 a0_6 l0_7 l0_8 a0_9) = some r := h; clear h; have H' := Aside0.mk H; clear H
 go_enter Try.func88, Try.ntmps88
 go_wp2_with (first | ((with_reducible refine gate_dst (N := 1) rfl ?_); refine bxe 1 #[.slice A0_0 l0_0.length c0_0, .int .i64 a0_1, .bool a0_2, .int .i64 a0_3, .int .i64 a0_4, .int .i64 a0_5, .int .i64 a0_6, .slice A0_7 l0_7.length c0_7, .slice A0_8 l0_8.length c0_8, .int .i64 a0_9] 60 ?_; intro b7 hg w2 hbox hb; have bc := hbox; have dn := nge HB hg; have dp := nge HB hg; replace HB := nbs HB hb; clear hb hbox hg))
 go_loopg [3] k (fun kq v3 w' => ∃ (bb : Int), v3 = .int .i64 bb ∧ Aside0 (spec_StateOk.l0 kq bb l0_0 a0_1 a0_2 a0_3 a0_4 a0_5 a0_6 l0_7 l0_8 a0_9 = some r) ∧ Aside0 (kq ≤ k) ∧ Aside0 (w'.heap[b7]? = some (.cells #[(.slice A0_0 l0_0.length c0_0), .int .i64 a0_1, .bool a0_2, .int .i64 a0_3, .int .i64 a0_4, .int .i64 a0_5, .int .i64 a0_6, (.slice A0_7 l0_7.length c0_7), (.slice A0_8 l0_8.length c0_8), .int .i64 a0_9] 60 (0, 0))) ∧ Aside0 (Below w.heap.size w w'))
 case atStart => exact ⟨(0), (by first | rfl | (simp; done) | (simp [*]; done)), H', ⟨Nat.le_refl _⟩, ⟨nb bc⟩, ⟨nbe HB⟩⟩
 case round =>
  clear H'; try clear p2
  obtain ⟨bb, rfl, HA, b2, bc, HB⟩ := hrel
  cases gk with
  | zero => exact absurd HA.out (by simp [spec_StateOk.l0])
  | succ k1 =>
   have H := HA.out; clear HA; simp only [spec_StateOk.l0] at H
   by_cases c3 : bb < (l0_0.length : Int)
   ·rw [if_pos c3] at H
    have c3b0 : decide (bb < (l0_0.length : Int)) = true := decide_eq_true c3; clear c3
    by_cases c4 : 0 ≤ bb
    ·rw [if_pos c4] at H
     have c4b0 : decide (0 ≤ bb) = true := decide_eq_true c4; clear c4; replace H := Option.bind_eq_some_iff.mp H; obtain ⟨bz, A50, H⟩ := H; replace H : (if bz = true then (spec_StateOk.l0 k1 (wrap64 (bb + 1)) l0_0 a0_1 a0_2 a0_3 a0_4 a0_5 a0_6 l0_7 l0_8 a0_9) else (some false)) = some r := H; have A5 := Aside0.mk A50; clear A50
     by_cases c6 : bz = true
     ·subst c6
      have H1 : (spec_StateOk.l0 k1 (wrap64 (bb + 1)) l0_0 a0_1 a0_2 a0_3 a0_4 a0_5 a0_6 l0_7 l0_8 a0_9) = some r := by rw [if_pos rfl] at H; exact H
      clear H; have H := H1; clear H1; have H' := Aside0.mk H; clear H; obtain ⟨dq, dr, ds, dt, du, dv, dw, dx, dy, dz⟩ := c10e bc; obtain ⟨dA, dB, dC, dD, dE, dF, dG, dH, dI, dJ⟩ := z10_ bc; have p1301 : 0 ≤ (bb : Int) := of_decide_eq_true (by first | (with_reducible assumption) | assumption); have q1301 : bb < (l0_0.length : Int) := of_decide_eq_true (by first | (with_reducible assumption) | assumption); obtain ⟨b8, e1301, bp, bq, br, bs, bt, bu⟩ := at_T29 bv.out bb p1301 q1301
      cases e1301
      replace bp := (HB.out.cell (World.block_lt_of_cell? w _ bp)).trans bp; replace bq := (HB.out.cell (World.block_lt_of_cell? w _ bq)).trans bq; replace br := (HB.out.cell (World.block_lt_of_cell? w _ br)).trans br; replace bs := (HB.out.cell (World.block_lt_of_cell? w _ bs)).trans bs; replace bt := (HB.out.cell (World.block_lt_of_cell? w _ bt)).trans bt; replace bu := (HB.out.cell (World.block_lt_of_cell? w _ bu)).trans bu; replace p1301 := eq_true p1301; replace q1301 := eq_true q1301
      go_wp2_with (first | ((with_reducible refine gate_callee (f := 11) rfl ?_); refine goesM (some 16) rfl rfl Try.func11 (by kernel_rfl) rfl #[.agg #[.int .i64 ((rd_T29 l0_0 bb).f0), .bool ((rd_T29 l0_0 bb).f1), .int .i64 ((rd_T29 l0_0 bb).f2.f0), .int .i64 ((rd_T29 l0_0 bb).f2.f1), .int .i64 ((rd_T29 l0_0 bb).f2.f2), .int .i64 ((rd_T29 l0_0 bb).f2.f3)]] rfl ?_; (with_reducible refine (spec_WordOk.calls k1 ((rd_T29 l0_0 bb).f0) ((rd_T29 l0_0 bb).f1) ((rd_T29 l0_0 bb).f2.f0) ((rd_T29 l0_0 bb).f2.f1) ((rd_T29 l0_0 bb).f2.f2) ((rd_T29 l0_0 bb).f2.f3) true _ A5.out).mono ?_); rintro e w8 ⟨rfl, hb⟩; refine ⟨_, rfl, ?_⟩; replace bc := nblk bc hb; replace HB := nbs HB hb; (try clear hb)))
      go_roundg k1
      case measure => have := b2.out; omega
      case rel => exact ⟨(wrap64 (bb + 1)), (by first | rfl | (simp; done) | (simp [*]; done)), H', ⟨by have := b2.out; omega⟩, ⟨nb bc⟩, ⟨nbe HB⟩⟩
     ·replace c6 := Bool.eq_false_iff.mpr c6
      subst c6; have H1 : (some false) = some r := by rw [if_neg (show ¬ (false = true) by decide)] at H; exact H
      clear H; have H := H1; clear H1; obtain rfl := Option.some.inj H; obtain ⟨dK, dL, dM, dN, dO, dP, dQ, dR, dS, dT⟩ := c10e bc; obtain ⟨dU, dV, dW, dX, dY, dZ, d0, d1, d2, d3⟩ := z10_ bc; have p1301 : 0 ≤ (bb : Int) := of_decide_eq_true (by first | (with_reducible assumption) | assumption); have q1301 : bb < (l0_0.length : Int) := of_decide_eq_true (by first | (with_reducible assumption) | assumption); obtain ⟨b8, e1301, bp, bq, br, bs, bt, bu⟩ := at_T29 bv.out bb p1301 q1301
      cases e1301
      replace bp := (HB.out.cell (World.block_lt_of_cell? w _ bp)).trans bp; replace bq := (HB.out.cell (World.block_lt_of_cell? w _ bq)).trans bq; replace br := (HB.out.cell (World.block_lt_of_cell? w _ br)).trans br; replace bs := (HB.out.cell (World.block_lt_of_cell? w _ bs)).trans bs; replace bt := (HB.out.cell (World.block_lt_of_cell? w _ bt)).trans bt; replace bu := (HB.out.cell (World.block_lt_of_cell? w _ bu)).trans bu; replace p1301 := eq_true p1301; replace q1301 := eq_true q1301
      go_wp2_with (first | ((with_reducible refine gate_callee (f := 11) rfl ?_); refine goesM (some 16) rfl rfl Try.func11 (by kernel_rfl) rfl #[.agg #[.int .i64 ((rd_T29 l0_0 bb).f0), .bool ((rd_T29 l0_0 bb).f1), .int .i64 ((rd_T29 l0_0 bb).f2.f0), .int .i64 ((rd_T29 l0_0 bb).f2.f1), .int .i64 ((rd_T29 l0_0 bb).f2.f2), .int .i64 ((rd_T29 l0_0 bb).f2.f3)]] rfl ?_; (with_reducible refine (spec_WordOk.calls k1 ((rd_T29 l0_0 bb).f0) ((rd_T29 l0_0 bb).f1) ((rd_T29 l0_0 bb).f2.f0) ((rd_T29 l0_0 bb).f2.f1) ((rd_T29 l0_0 bb).f2.f2) ((rd_T29 l0_0 bb).f2.f3) false _ A5.out).mono ?_); rintro e d4 ⟨rfl, hb⟩; refine ⟨_, rfl, ?_⟩; replace bc := nblk bc hb; replace HB := nbs HB hb; (try clear hb)))
      go_ret
      exact ⟨er_, nbe HB⟩
    ·rw [if_neg c4] at H
     exact absurd H (by simp)
   ·rw [if_neg c3] at H
    have c3b0 : decide (bb < (l0_0.length : Int)) = false := decide_eq_false c3; clear c3
    by_cases c11 : (l0_0.length : Int) = 8
    ·rw [if_pos c11] at H
     have c11b0 : ((l0_0.length : Int) == 8) = true := beq_iff_eq.mpr c11; have c11b1 : ((l0_0.length : Int) != 8) = false := bne_eq_false_iff_eq.mpr c11; clear c11; replace H := Option.bind_eq_some_iff.mp H; obtain ⟨bA, A120, H⟩ := H; replace H : (if bA = true then ((spec_MemoryOk.f k1 l0_7 l0_8).bind fun bi => (if bi = true then ((spec_l1In.f a0_9 0 5).bind fun bf => (some bf)) else (some false))) else (some false)) = some r := H; have A12 := Aside0.mk A120; clear A120
     by_cases c13 : bA = true
     ·subst c13
      have H1 : ((spec_MemoryOk.f k1 l0_7 l0_8).bind fun bi => (if bi = true then ((spec_l1In.f a0_9 0 5).bind fun bf => (some bf)) else (some false))) = some r := by rw [if_pos rfl] at H; exact H
      clear H; have H := H1; clear H1; replace H := Option.bind_eq_some_iff.mp H; obtain ⟨bi, A140, H⟩ := H; replace H : (if bi = true then ((spec_l1In.f a0_9 0 5).bind fun bf => (some bf)) else (some false)) = some r := H; have A14 := Aside0.mk A140; clear A140
      by_cases c15 : bi = true
      ·subst c15
       have H1 : ((spec_l1In.f a0_9 0 5).bind fun bf => (some bf)) = some r := by rw [if_pos rfl] at H; exact H
       clear H; have H := H1; clear H1; replace H := Option.bind_eq_some_iff.mp H; obtain ⟨bf, A160, H⟩ := H; replace H : (some bf) = some r := H; have A16 := Aside0.mk A160; clear A160; obtain rfl := Option.some.inj H; obtain ⟨d5, d6, d7, d8, d9, ea, eb, ec, ed, ee⟩ := c10e bc; obtain ⟨ef, eg, eh, ei, ej, ek, el, em, en, eo⟩ := z10_ bc
       go_wp2_with (first | (go_at_call 11; (with_reducible refine (spec_WordOk.calls k1 a0_1 a0_2 a0_3 a0_4 a0_5 a0_6 true _ A12.out).mono ?_); rintro e ep ⟨rfl, hb⟩; replace bc := nblk bc hb; replace HB := nbs HB hb; (try clear hb); obtain ⟨er, es, et, eu, ev, ew, ex, ey, ez, eA⟩ := c10e bc; obtain ⟨eB, eC, eD, eE, eF, eG, eH, eI, eJ, eK⟩ := z10_ bc) | (go_at_call 93; (with_reducible refine (spec_MemoryOk.calls k1 _ _ l0_7 _ _ l0_8 true _ ?side1 ?side2 ?side3 ?side4 A14.out).mono ?_); (case side1 => exact nCb bY HB); (case side2 => exact bZ.out); (case side3 => exact nCb b0 HB); (case side4 => exact b1.out); rintro e eL ⟨rfl, hb⟩; replace bc := nblk bc hb; replace HB := nbs HB hb; (try clear hb); obtain ⟨eM, eN, eO, eP, eQ, eR, eS, eT, eU, eV⟩ := c10e bc; obtain ⟨eW, eX, eY, eZ, e0, e1, e2, e3, e4, e5⟩ := z10_ bc) | (go_at_call 32; (with_reducible refine (spec_l1In.calls a0_9 0 5 bf _ A16.out).mono ?_); rintro e w' ⟨rfl, ⟨nd, rfl⟩⟩))
       go_ret
       exact ⟨er_, nbe HB⟩
      ·replace c15 := Bool.eq_false_iff.mpr c15
       subst c15; have H1 : (some false) = some r := by rw [if_neg (show ¬ (false = true) by decide)] at H; exact H
       clear H; have H := H1; clear H1; obtain rfl := Option.some.inj H; obtain ⟨e6, e7, e8, e9, ga, gb, gc, gd, gf, gg⟩ := c10e bc; obtain ⟨gh, gi, gj, gl, gm, gn, gp, gq, gr, gs⟩ := z10_ bc
       go_wp2_with (first | (go_at_call 11; (with_reducible refine (spec_WordOk.calls k1 a0_1 a0_2 a0_3 a0_4 a0_5 a0_6 true _ A12.out).mono ?_); rintro e gt ⟨rfl, hb⟩; replace bc := nblk bc hb; replace HB := nbs HB hb; (try clear hb); obtain ⟨gu, gv, gw, gx, gy, gz, gA, gB, gC, gD⟩ := c10e bc; obtain ⟨gE, gF, gG, gH, gI, gJ, gK, gL, gM, gN⟩ := z10_ bc) | (go_at_call 93; (with_reducible refine (spec_MemoryOk.calls k1 _ _ l0_7 _ _ l0_8 false _ ?side1 ?side2 ?side3 ?side4 A14.out).mono ?_); (case side1 => exact nCb bY HB); (case side2 => exact bZ.out); (case side3 => exact nCb b0 HB); (case side4 => exact b1.out); rintro e gO ⟨rfl, hb⟩; replace bc := nblk bc hb; replace HB := nbs HB hb; (try clear hb)))
       go_ret
       exact ⟨er_, nbe HB⟩
     ·replace c13 := Bool.eq_false_iff.mpr c13
      subst c13; have H1 : (some false) = some r := by rw [if_neg (show ¬ (false = true) by decide)] at H; exact H
      clear H; have H := H1; clear H1; obtain rfl := Option.some.inj H; obtain ⟨gP, gQ, gR, gS, gT, gU, gV, gW, gX, gY⟩ := c10e bc; obtain ⟨gZ, g0, g1, g2, g3, g4, g5, g6, g7, g8⟩ := z10_ bc
      go_wp2_with (first | (go_at_call 11; (with_reducible refine (spec_WordOk.calls k1 a0_1 a0_2 a0_3 a0_4 a0_5 a0_6 false _ A12.out).mono ?_); rintro e g9 ⟨rfl, hb⟩; replace bc := nblk bc hb; replace HB := nbs HB hb; (try clear hb)))
      go_ret
      exact ⟨er_, nbe HB⟩
    ·rw [if_neg c11] at H
     have c11b0 : ((l0_0.length : Int) == 8) = false := beq_eq_false_iff_ne.mpr c11; have c11b1 : ((l0_0.length : Int) != 8) = true := bne_iff_ne.mpr c11; obtain rfl := Option.some.inj H; obtain ⟨ha, hc, hd, hf, hh, hj, hl, hm, hn, ho⟩ := c10e bc; obtain ⟨hp, hq, hr, hs, ht, hu, hv, hw, hx, hy⟩ := z10_ bc; go_wp2
     go_ret
     exact ⟨er_, nbe HB⟩

end Go.Proofs.Ytpcladboobfkhaa.PFnWork
