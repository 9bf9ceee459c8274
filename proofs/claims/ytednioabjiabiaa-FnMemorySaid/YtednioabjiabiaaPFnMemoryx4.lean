-- Written by a program of this session (wip/patch.py turns a copy of the kit's print): the functions that the law reaches, and their walks.
import Derived.Test.YtednioabjiabiaaPFnMemoryx0
import Derived.Test.YtednioabjiabiaaPFnMemoryx3
import Derived.Test.YtednioabjiabiaaCFnMemory
namespace Go.Proofs.Ytednioabjiabiaa.PFnMemory
open Go.RowKit Go.Proofs.YtednioabjiabiaaW.PrintWords Go.Proofs.YtednioabjiabiaaW.PrintLast Go.Proofs.YtednioabjiabiaaW.PrintMore Go.Proofs.YtednioabjiabiaaW.Mine
attribute [local go_sem] max2_int min2_int max_two min_two max_three min_three max_four min_four   -- for this text's walks alone
set_option linter.unusedVariables false
set_option linter.unusedSimpArgs false

/-! ### spec_MemoryOk: function 13 -/
mutual
def spec_MemoryOk.j0 : Nat → Bool → List (S36) → List Bool → Option (Bool)
 | 0, _, _, _ => none
 | k + 1, er, bv, di => if er = true then (some false) else (spec_MemoryOk.l0 k 0 bv di)
def spec_MemoryOk.l0 : Nat → Int → List (S36) → List Bool → Option (Bool)
 | 0, _, _, _ => none
 | k + 1, x3, bv, di => if x3 < 24 then (if 0 ≤ x3 then (if x3 < (bv.length : Int) then ((spec_WordOk.f k ((rd_T36 bv x3).f0) ((rd_T36 bv x3).f1) ((rd_T36 bv x3).f2.f0) ((rd_T36 bv x3).f2.f1) ((rd_T36 bv x3).f2.f2) ((rd_T36 bv x3).f2.f3)).bind fun dc => (if dc = true then (spec_MemoryOk.l0 k (wrap64 (x3 + 1)) bv di) else (some false))) else (none)) else (none)) else (some true)
end
def spec_MemoryOk.f (k : Nat) (l0_0 : List (S36)) (l0_1 : List Bool) : Option (Bool) := if (l0_0.length : Int) = 24 then (spec_MemoryOk.j0 k ((l0_1.length : Int) != 24) l0_0 l0_1) else (spec_MemoryOk.j0 k true l0_0 l0_1)
theorem spec_MemoryOk.mono_l : ∀ k, (∀ y0 y1 y2, LeO (spec_MemoryOk.j0 k y0 y1 y2) (spec_MemoryOk.j0 (k + 1) y0 y1 y2)) ∧ (∀ y0 y1 y2, LeO (spec_MemoryOk.l0 k y0 y1 y2) (spec_MemoryOk.l0 (k + 1) y0 y1 y2))
 | 0 => ⟨fun _ _ _ r h => by simp [spec_MemoryOk.j0] at h, fun _ _ _ r h => by simp [spec_MemoryOk.l0] at h⟩
 | k + 1 => by
  obtain ⟨ih0, ih1⟩ := spec_MemoryOk.mono_l k; refine ⟨?_, ?_⟩
  ·intro y0 y1 y2
   unfold spec_MemoryOk.j0
   repeat' first
   | (with_reducible exact ih0 _ _ _)
   | (with_reducible exact ih1 _ _ _)
   | (with_reducible exact spec_WordOk.mono _ _ _ _ _ _ _)
   | (with_reducible exact LeO.refl _)
   | (with_reducible exact LeO.none _)
   | (with_reducible refine LeO.ite ?_ ?_)
   | (with_reducible refine LeO.bind ?_ (fun _ => ?_))
   | exact ih0 _ _ _
   | exact ih1 _ _ _
   | exact spec_WordOk.mono _ _ _ _ _ _ _
   | exact LeO.none _
   | refine LeO.ite ?_ ?_
   | refine LeO.bind ?_ (fun _ => ?_)
  ·intro y0 y1 y2
   unfold spec_MemoryOk.l0
   repeat' first
   | (with_reducible exact ih0 _ _ _)
   | (with_reducible exact ih1 _ _ _)
   | (with_reducible exact spec_WordOk.mono _ _ _ _ _ _ _)
   | (with_reducible exact LeO.refl _)
   | (with_reducible exact LeO.none _)
   | (with_reducible refine LeO.ite ?_ ?_)
   | (with_reducible refine LeO.bind ?_ (fun _ => ?_))
   | exact ih0 _ _ _
   | exact ih1 _ _ _
   | exact spec_WordOk.mono _ _ _ _ _ _ _
   | exact LeO.none _
   | refine LeO.ite ?_ ?_
   | refine LeO.bind ?_ (fun _ => ?_)
theorem spec_MemoryOk.mono : ∀ a0 a1 k, LeO (spec_MemoryOk.f k a0 a1) (spec_MemoryOk.f (k + 1) a0 a1) := by
 intro a0 a1 k; obtain ⟨ih0, ih1⟩ := spec_MemoryOk.mono_l k
 unfold spec_MemoryOk.f
 repeat' first
   | (with_reducible exact ih0 _ _ _)
   | (with_reducible exact ih1 _ _ _)
   | (with_reducible exact spec_WordOk.mono _ _ _ _ _ _ _)
   | (with_reducible exact LeO.refl _)
   | (with_reducible exact LeO.none _)
   | (with_reducible refine LeO.ite ?_ ?_)
   | (with_reducible refine LeO.bind ?_ (fun _ => ?_))
   | exact ih0 _ _ _
   | exact ih1 _ _ _
   | exact spec_WordOk.mono _ _ _ _ _ _ _
   | exact LeO.none _
   | refine LeO.ite ?_ ?_
   | refine LeO.bind ?_ (fun _ => ?_)
set_option maxHeartbeats 8000000 in
set_option maxRecDepth 100000 in
theorem spec_MemoryOk.calls (k : Nat) (A0_0 : Option Addr) (c0_0 : Nat) (l0_0 : List (S36)) (A0_1 : Option Addr) (c0_1 : Nat) (l0_1 : List Bool) (r : Bool) (w : World) (hr0_0 : Kd.C k36 w A0_0 l0_0.length l0_0) (hc0_0 : l0_0.length ≤ c0_0) (hr0_1 : Kd.C Kd.bool w A0_1 l0_1.length l0_1) (hc0_1 : l0_1.length ≤ c0_1) (h : spec_MemoryOk.f k l0_0 l0_1 = some r) :
  Calls Try.prog 13 #[.agg #[.slice A0_0 l0_0.length c0_0, .slice A0_1 l0_1.length c0_1]] w fun e w' => e = .returned (.bool r) ∧ Below w.heap.size w w' := by
 have hu27 := Try.underlying27; have hu36 := Try.underlying36; have dj := Aside0.mk hr0_0; have es := Aside0.mk hc0_0; clear hr0_0 hc0_0; have dk := Aside0.mk hr0_1; have et := Aside0.mk hc0_1; clear hr0_1 hc0_1; have HB := Aside0.mk (Below.refl w.heap.size w); have H : (if (l0_0.length : Int) = 24 then (spec_MemoryOk.j0 k ((l0_1.length : Int) != 24) l0_0 l0_1) else (spec_MemoryOk.j0 k true l0_0 l0_1)) = some r := h; clear h; have dl := Aside0.mk H; clear H
 go_enter Try.func13, Try.ntmps13
 go_upto_region 1 with (first | ((with_reducible refine gate_dst (N := 1) rfl ?_); (try (refine gate_guard (by rfl) ?_; dsimp only)); refine bxe 1 #[.slice A0_0 l0_0.length c0_0, .slice A0_1 l0_1.length c0_1] 27 ?_; intro d7 hg w3 hbox hb; have bk := hbox; have eV := nge HB hg; have eW := nge HB hg; replace HB := nbs HB hb; clear hb hbox hg))
 (try simp only [Act.put, List.setIfInBounds_toArray, List.set_cons_zero, List.set_cons_succ])
 go_cut [13] (fun eu wc => ∃ (kq : Nat) (dd : Bool), eu = .bool dd ∧ Aside0 (spec_MemoryOk.j0 kq dd l0_0 l0_1 = some r) ∧ Aside0 (kq ≤ k) ∧ Aside0 (wc.heap[d7]? = some (.cells #[(.slice A0_0 l0_0.length c0_0), (.slice A0_1 l0_1.length c0_1)] 27 (0, 0))) ∧ Aside0 (Below w.heap.size w wc))
 case first =>
  have H := dl.out; clear dl
  by_cases c4 : (l0_0.length : Int) = 24
  ·rw [if_pos c4] at H
   have c4b0 : ((l0_0.length : Int) == 24) = true := beq_iff_eq.mpr c4; have c4b1 : ((l0_0.length : Int) != 24) = false := bne_eq_false_iff_eq.mpr c4; clear c4; (first | rw [c4b0] | (simp only [i64_w, i32_w]; rw [c4b0]) | skip); have H' := Aside0.mk H; clear H; obtain ⟨d8, d9⟩ := c2e bk; obtain ⟨ea, eb⟩ := z2_ bk; go_wp2
   go_meet
   case rel => exact ⟨_, (((l0_1.length : Int) != 24)), (by first | rfl | (simp; done) | (simp [*]; done)), H', ⟨by first | omega | exact Nat.le_refl _⟩, ⟨nb bk⟩, ⟨nbe HB⟩⟩
  ·rw [if_neg c4] at H
   have c4b0 : ((l0_0.length : Int) == 24) = false := beq_eq_false_iff_ne.mpr c4; have c4b1 : ((l0_0.length : Int) != 24) = true := bne_iff_ne.mpr c4; (first | rw [c4b0] | (simp only [i64_w, i32_w]; rw [c4b0]) | skip); have H' := Aside0.mk H; clear H; obtain ⟨dm, dn⟩ := c2e bk; obtain ⟨dp, dq⟩ := z2_ bk; go_wp2
   go_meet
   case rel => exact ⟨_, (true), (by first | rfl | (simp; done) | (simp [*]; done)), H', ⟨by first | omega | exact Nat.le_refl _⟩, ⟨nb bk⟩, ⟨nbe HB⟩⟩
 case rest =>
  clear dl; try clear c1
  try clear p2
  try clear c4
  try clear c4b0
  try clear c4b1
  try clear d8
  try clear d9
  try clear dm
  try clear dn
  try clear ea
  try clear eb
  try clear dp
  try clear dq
  obtain ⟨kq, dd, rfl, HA, ec, bk, HB⟩ := hcut
  cases kq with
  | zero => exact absurd HA.out (by simp [spec_MemoryOk.j0])
  | succ kj1 =>
   have H := HA.out; clear HA; simp only [spec_MemoryOk.j0] at H
   by_cases c7 : dd = true
   ·subst c7
    have H1 : (some false) = some r := by rw [if_pos rfl] at H; exact H
    clear H; have H := H1; clear H1; obtain rfl := Option.some.inj H; go_wp2
    go_ret
    exact ⟨er_, nbe HB⟩
   ·replace c7 := Bool.eq_false_iff.mpr c7
    subst c7; have H1 : (spec_MemoryOk.l0 kj1 0 l0_0 l0_1) = some r := by rw [if_neg (show ¬ (false = true) by decide)] at H; exact H
    clear H; have H := H1; clear H1; have H' := Aside0.mk H; clear H; go_wp2
    go_loopg [3] kj1 (fun kq v3 w' => ∃ (bc : Int), v3 = .int .i64 bc ∧ Aside0 (spec_MemoryOk.l0 kq bc l0_0 l0_1 = some r) ∧ Aside0 (kq ≤ kj1) ∧ Aside0 (w'.heap[d7]? = some (.cells #[(.slice A0_0 l0_0.length c0_0), (.slice A0_1 l0_1.length c0_1)] 27 (0, 0))) ∧ Aside0 (Below w.heap.size w w'))
    case atStart => exact ⟨(0), (by first | rfl | (simp; done) | (simp [*]; done)), H', ⟨Nat.le_refl _⟩, ⟨nb bk⟩, ⟨nbe HB⟩⟩
    case round =>
     clear H'; try clear c1
     try clear p2
     try clear c4
     try clear c4b0
     try clear c4b1
     try clear c7
     try clear d8
     try clear d9
     try clear dm
     try clear dn
     try clear ea
     try clear eb
     try clear dp
     try clear dq
     try clear p2
     obtain ⟨bc, rfl, HA, ed, bk, HB⟩ := hrel
     cases gk with
     | zero => exact absurd HA.out (by simp [spec_MemoryOk.l0])
     | succ k2 =>
      have H := HA.out; clear HA; simp only [spec_MemoryOk.l0] at H
      by_cases c8 : bc < 24
      ·rw [if_pos c8] at H
       have c8b0 : decide (bc < 24) = true := decide_eq_true c8; clear c8
       by_cases c9 : 0 ≤ bc
       ·rw [if_pos c9] at H
        have c9b0 : decide (0 ≤ bc) = true := decide_eq_true c9; clear c9
        by_cases c10 : bc < (l0_0.length : Int)
        ·rw [if_pos c10] at H
         have c10b0 : decide (bc < (l0_0.length : Int)) = true := decide_eq_true c10; clear c10; replace H := Option.bind_eq_some_iff.mp H; obtain ⟨dc, A110, H⟩ := H; replace H : (if dc = true then (spec_MemoryOk.l0 k2 (wrap64 (bc + 1)) l0_0 l0_1) else (some false)) = some r := H; have A11 := Aside0.mk A110; clear A110
         by_cases c12 : dc = true
         ·subst c12
          have H1 : (spec_MemoryOk.l0 k2 (wrap64 (bc + 1)) l0_0 l0_1) = some r := by rw [if_pos rfl] at H; exact H
          clear H; have H := H1; clear H1; have H' := Aside0.mk H; clear H; obtain ⟨ev, ew⟩ := c2e bk; obtain ⟨ex, ey⟩ := z2_ bk; have p132 : 0 ≤ (bc : Int) := of_decide_eq_true (by first | (with_reducible assumption) | assumption); have q132 : bc < (l0_0.length : Int) := of_decide_eq_true (by first | (with_reducible assumption) | assumption); obtain ⟨ez, e132, bG, bH, bI, bJ, bK, bL⟩ := at_T36 dj.out bc p132 q132
          cases e132
          replace bG := (HB.out.cell (World.block_lt_of_cell? w _ bG)).trans bG; replace bH := (HB.out.cell (World.block_lt_of_cell? w _ bH)).trans bH; replace bI := (HB.out.cell (World.block_lt_of_cell? w _ bI)).trans bI; replace bJ := (HB.out.cell (World.block_lt_of_cell? w _ bJ)).trans bJ; replace bK := (HB.out.cell (World.block_lt_of_cell? w _ bK)).trans bK; replace bL := (HB.out.cell (World.block_lt_of_cell? w _ bL)).trans bL; replace p132 := eq_true p132; replace q132 := eq_true q132
          go_wp2_with (first | ((with_reducible refine gate_callee (f := 36) rfl ?_); refine goesM (some 23) rfl rfl Try.func36 (by kernel_rfl) rfl #[.agg #[.int .i64 ((rd_T36 l0_0 bc).f0), .bool ((rd_T36 l0_0 bc).f1), .int .i64 ((rd_T36 l0_0 bc).f2.f0), .int .i64 ((rd_T36 l0_0 bc).f2.f1), .int .i64 ((rd_T36 l0_0 bc).f2.f2), .int .i64 ((rd_T36 l0_0 bc).f2.f3)]] rfl ?_; (with_reducible refine (spec_WordOk.calls k2 ((rd_T36 l0_0 bc).f0) ((rd_T36 l0_0 bc).f1) ((rd_T36 l0_0 bc).f2.f0) ((rd_T36 l0_0 bc).f2.f1) ((rd_T36 l0_0 bc).f2.f2) ((rd_T36 l0_0 bc).f2.f3) true _ A11.out).mono ?_); rintro e b0 ⟨rfl, hb⟩; refine ⟨_, rfl, ?_⟩; replace bk := nblk bk hb; replace HB := nbs HB hb; (try clear hb)))
          go_roundg k2
          case measure => have := ec.out; have := ed.out; omega
          case rel => exact ⟨(wrap64 (bc + 1)), (by first | rfl | (simp; done) | (simp [*]; done)), H', ⟨by have := ec.out; have := ed.out; omega⟩, ⟨nb bk⟩, ⟨nbe HB⟩⟩
         ·replace c12 := Bool.eq_false_iff.mpr c12
          subst c12; have H1 : (some false) = some r := by rw [if_neg (show ¬ (false = true) by decide)] at H; exact H
          clear H; have H := H1; clear H1; obtain rfl := Option.some.inj H; obtain ⟨eA, eB⟩ := c2e bk; obtain ⟨eC, eD⟩ := z2_ bk; have p132 : 0 ≤ (bc : Int) := of_decide_eq_true (by first | (with_reducible assumption) | assumption); have q132 : bc < (l0_0.length : Int) := of_decide_eq_true (by first | (with_reducible assumption) | assumption); obtain ⟨ez, e132, bG, bH, bI, bJ, bK, bL⟩ := at_T36 dj.out bc p132 q132
          cases e132
          replace bG := (HB.out.cell (World.block_lt_of_cell? w _ bG)).trans bG; replace bH := (HB.out.cell (World.block_lt_of_cell? w _ bH)).trans bH; replace bI := (HB.out.cell (World.block_lt_of_cell? w _ bI)).trans bI; replace bJ := (HB.out.cell (World.block_lt_of_cell? w _ bJ)).trans bJ; replace bK := (HB.out.cell (World.block_lt_of_cell? w _ bK)).trans bK; replace bL := (HB.out.cell (World.block_lt_of_cell? w _ bL)).trans bL; replace p132 := eq_true p132; replace q132 := eq_true q132
          go_wp2_with (first | ((with_reducible refine gate_callee (f := 36) rfl ?_); refine goesM (some 23) rfl rfl Try.func36 (by kernel_rfl) rfl #[.agg #[.int .i64 ((rd_T36 l0_0 bc).f0), .bool ((rd_T36 l0_0 bc).f1), .int .i64 ((rd_T36 l0_0 bc).f2.f0), .int .i64 ((rd_T36 l0_0 bc).f2.f1), .int .i64 ((rd_T36 l0_0 bc).f2.f2), .int .i64 ((rd_T36 l0_0 bc).f2.f3)]] rfl ?_; (with_reducible refine (spec_WordOk.calls k2 ((rd_T36 l0_0 bc).f0) ((rd_T36 l0_0 bc).f1) ((rd_T36 l0_0 bc).f2.f0) ((rd_T36 l0_0 bc).f2.f1) ((rd_T36 l0_0 bc).f2.f2) ((rd_T36 l0_0 bc).f2.f3) false _ A11.out).mono ?_); rintro e eX ⟨rfl, hb⟩; refine ⟨_, rfl, ?_⟩; replace bk := nblk bk hb; replace HB := nbs HB hb; (try clear hb)))
          go_ret
          exact ⟨er_, nbe HB⟩
        ·rw [if_neg c10] at H
         exact absurd H (by simp)
       ·rw [if_neg c9] at H
        exact absurd H (by simp)
      ·rw [if_neg c8] at H
       have c8b0 : decide (bc < 24) = false := decide_eq_false c8; clear c8; obtain rfl := Option.some.inj H; go_wp2
       go_ret
       exact ⟨er_, nbe HB⟩

/-! ### impl_in: function 27 -/
def impl_in.f (a0 : Int) (a1 : Int) (a2 : Int) : Option (Bool) := if a0 ≥ a1 then (some (decide (a0 ≤ a2))) else (some false)
set_option maxHeartbeats 8000000 in
set_option maxRecDepth 100000 in
theorem impl_in.calls (a0 : Int) (a1 : Int) (a2 : Int) (r : Bool) (w : World) (h : impl_in.f a0 a1 a2 = some r) :
  Calls Try.prog 27 #[.int .i64 a0, .int .i64 a1, .int .i64 a2] w fun e w' => e = .returned (.bool r) ∧ Drawn0 w w' := by
 have H : (if a0 ≥ a1 then (some (decide (a0 ≤ a2))) else (some false)) = some r := h; clear h
 by_cases c4 : a0 ≥ a1
 ·rw [if_pos c4] at H
  have c4b0 : decide (a1 ≤ a0) = true := decide_eq_true c4; clear c4; obtain rfl := Option.some.inj H
  go_enter Try.func27, Try.ntmps27
  go_wp2
  go_ret
  exact ⟨by first | rfl | (simp; done) | (simp [*]; done), by repeat (first | exact Drawn0.refl _ | apply Drawn0.step)⟩
 ·rw [if_neg c4] at H
  have c4b0 : decide (a1 ≤ a0) = false := decide_eq_false c4; clear c4; obtain rfl := Option.some.inj H
  go_enter Try.func27, Try.ntmps27
  go_wp2
  go_ret
  exact ⟨by first | rfl | (simp; done) | (simp [*]; done), by repeat (first | exact Drawn0.refl _ | apply Drawn0.step)⟩

/-! ### impl_Plain: function 40 -/
def impl_Plain.f (a0 : Int) : Option (Int × Bool × Int × Int × Int × Int) := some (Go.bits .and .i64 a0 65535, false, 0, 0, 0, 0)
set_option maxHeartbeats 8000000 in
set_option maxRecDepth 100000 in
theorem impl_Plain.calls (a0 : Int) (r1 : Int) (r2 : Bool) (r3 : Int) (r4 : Int) (r5 : Int) (r6 : Int) (w : World) (h : impl_Plain.f a0 = some (r1, r2, r3, r4, r5, r6)) :
  Calls Try.prog 40 #[.int .i64 a0] w fun e w' => e = .returned (.agg #[.int .i64 r1, .bool r2, .int .i64 r3, .int .i64 r4, .int .i64 r5, .int .i64 r6]) ∧ Below w.heap.size w w' := by
 have hu36 := Try.underlying36; have HB := Aside0.mk (Below.refl w.heap.size w); have H : (some (Go.bits .and .i64 a0 65535, false, 0, 0, 0, 0)) = some (r1, r2, r3, r4, r5, r6) := h; clear h; simp only [Option.some.injEq, Prod.mk.injEq] at H; obtain ⟨rfl, rfl, rfl, rfl, rfl, rfl⟩ := H
 go_enter Try.func40, Try.ntmps40
 go_wp2_with (first | ((with_reducible refine gate_dst (N := 2) rfl ?_); refine bxe 2 #[.int .i64 0, .bool false, .int .i64 0, .int .i64 0, .int .i64 0, .int .i64 0] 36 ?_; intro eE hg w2 hbox hb; have dr := hbox; have eY := nge HB hg; have eZ := nge HB hg; replace HB := nbs HB hb; clear hb hbox hg; obtain ⟨e0, e1, e2, e3, e4, e5⟩ := c6e dr; obtain ⟨e6, e7, e8, e9, ga, gb⟩ := z6_ dr))
 refine bodyPost_ret (results_cell_row rfl _ _ eE 36 #[.int .i64 (Go.bits .and .i64 a0 65535), .bool false, .int .i64 0, .int .i64 0, .int .i64 0, .int .i64 0] (0, 0) _ rfl (q6 dr) Try.underlying36 rfl (by kernel_rfl)) rfl ?_; exact ⟨er_, nbe HB⟩

/-! ### impl_Bare: function 38 -/
def impl_Bare.f (a0_0 : Int) (a0_1 : Bool) (a0_2 : Int) (a0_3 : Int) (a0_4 : Int) (a0_5 : Int) : Option (Int × Bool × Int × Int × Int × Int) := (impl_Plain.f a0_0).bind fun bp => (some (bp.1, bp.2.1, bp.2.2.1, bp.2.2.2.1, bp.2.2.2.2.1, bp.2.2.2.2.2))
set_option maxHeartbeats 8000000 in
set_option maxRecDepth 100000 in
theorem impl_Bare.calls (a0_0 : Int) (a0_1 : Bool) (a0_2 : Int) (a0_3 : Int) (a0_4 : Int) (a0_5 : Int) (r1 : Int) (r2 : Bool) (r3 : Int) (r4 : Int) (r5 : Int) (r6 : Int) (w : World) (h : impl_Bare.f a0_0 a0_1 a0_2 a0_3 a0_4 a0_5 = some (r1, r2, r3, r4, r5, r6)) :
  Calls Try.prog 38 #[.agg #[.int .i64 a0_0, .bool a0_1, .int .i64 a0_2, .int .i64 a0_3, .int .i64 a0_4, .int .i64 a0_5]] w fun e w' => e = .returned (.agg #[.int .i64 r1, .bool r2, .int .i64 r3, .int .i64 r4, .int .i64 r5, .int .i64 r6]) ∧ Below w.heap.size w w' := by
 have hu36 := Try.underlying36; have HB := Aside0.mk (Below.refl w.heap.size w); have H : ((impl_Plain.f a0_0).bind fun bp => (some (bp.1, bp.2.1, bp.2.2.1, bp.2.2.2.1, bp.2.2.2.2.1, bp.2.2.2.2.2))) = some (r1, r2, r3, r4, r5, r6) := h; clear h; replace H := Option.bind_eq_some_iff.mp H; obtain ⟨⟨ds, dt, du, dv, dw, dx⟩, A20, H⟩ := H; replace H : (some (ds, dt, du, dv, dw, dx)) = some (r1, r2, r3, r4, r5, r6) := H; have A2 := Aside0.mk A20; clear A20; simp only [Option.some.injEq, Prod.mk.injEq] at H; obtain ⟨rfl, rfl, rfl, rfl, rfl, rfl⟩ := H
 go_enter Try.func38, Try.ntmps38
 go_wp2_with (first | ((with_reducible refine gate_dst (N := 1) rfl ?_); refine bxe 1 #[.int .i64 a0_0, .bool a0_1, .int .i64 a0_2, .int .i64 a0_3, .int .i64 a0_4, .int .i64 a0_5] 36 ?_; intro gc hg w3 hbox hb; have bA := hbox; have gd := nge HB hg; have gf := nge HB hg; replace HB := nbs HB hb; clear hb hbox hg) | ((with_reducible refine gate_dst (N := 2) rfl ?_); refine bxe 2 #[.int .i64 0, .bool false, .int .i64 0, .int .i64 0, .int .i64 0, .int .i64 0] 36 ?_; intro eF hg w4 hbox hb; have b9 := hbox; have gg := nge HB hg; have gh := nge HB hg; have eG := nlt bA hg; have eH := ngt bA hg; replace bA := nblk bA hb; replace HB := nbs HB hb; clear hb hbox hg; have gi := eG.out; have gj := eH.out; obtain ⟨dm, dn, gl, gm, gn, gp⟩ := c6e bA; obtain ⟨dp, dq, gq, gr, gs, gt⟩ := z6_ bA) | ((with_reducible refine gate_callee (f := 40) rfl ?_); refine goesM (some 5) rfl rfl Try.func40 (by kernel_rfl) rfl #[.int .i64 a0_0] rfl ?_; (with_reducible refine (impl_Plain.calls a0_0 ds dt du dv dw dx _ A2.out).mono ?_); rintro e w7 ⟨rfl, hb⟩; refine ⟨_, rfl, ?_⟩; replace bA := nblk bA hb; replace b9 := nblk b9 hb; replace HB := nbs HB hb; (try clear hb); obtain ⟨gu, gv, gw, gx, gy, gz⟩ := c6e b9; obtain ⟨gA, gB, gC, gD, gE, gF⟩ := z6_ b9))
 refine bodyPost_ret (results_cell_row rfl _ _ eF 36 #[.int .i64 ds, .bool dt, .int .i64 du, .int .i64 dv, .int .i64 dw, .int .i64 dx] (0, 0) _ rfl (q6 b9) Try.underlying36 rfl (by kernel_rfl)) rfl ?_; exact ⟨er_, nbe HB⟩

/-! ### impl_Filter: function 16 -/
def impl_Filter.f (l0_0 : List (S36)) (l0_1 : List Bool) (a1_0 : Int) (a1_1 : Bool) (a1_2 : Int) (a1_3 : Int) (a1_4 : Int) (a1_5 : Int) : Option (Int × Bool × Int × Int × Int × Int) := if a1_1 = true then ((impl_in.f a1_2 0 (wrap64 ((l0_1.length : Int) - 1))).bind fun bB => (if bB = true then (if 0 ≤ a1_2 then (if a1_2 < (l0_1.length : Int) then (if rdOf false l0_1 a1_2 = true then ((impl_Bare.f a1_0 a1_1 a1_2 a1_3 a1_4 a1_5).bind fun bb => (some (bb.1, bb.2.1, bb.2.2.1, bb.2.2.2.1, bb.2.2.2.2.1, bb.2.2.2.2.2))) else (some (a1_0, a1_1, a1_2, a1_3, a1_4, a1_5))) else (none)) else (none)) else (some (a1_0, a1_1, a1_2, a1_3, a1_4, a1_5)))) else (some (a1_0, a1_1, a1_2, a1_3, a1_4, a1_5))
set_option maxHeartbeats 8000000 in
set_option maxRecDepth 100000 in
theorem impl_Filter.calls (A0_0 : Option Addr) (c0_0 : Nat) (l0_0 : List (S36)) (A0_1 : Option Addr) (c0_1 : Nat) (l0_1 : List Bool) (a1_0 : Int) (a1_1 : Bool) (a1_2 : Int) (a1_3 : Int) (a1_4 : Int) (a1_5 : Int) (r1 : Int) (r2 : Bool) (r3 : Int) (r4 : Int) (r5 : Int) (r6 : Int) (w : World) (hr0_0 : Kd.C k36 w A0_0 l0_0.length l0_0) (hc0_0 : l0_0.length ≤ c0_0) (hr0_1 : Kd.C Kd.bool w A0_1 l0_1.length l0_1) (hc0_1 : l0_1.length ≤ c0_1) (h : impl_Filter.f l0_0 l0_1 a1_0 a1_1 a1_2 a1_3 a1_4 a1_5 = some (r1, r2, r3, r4, r5, r6)) :
  Calls Try.prog 16 #[.agg #[.slice A0_0 l0_0.length c0_0, .slice A0_1 l0_1.length c0_1], .agg #[.int .i64 a1_0, .bool a1_1, .int .i64 a1_2, .int .i64 a1_3, .int .i64 a1_4, .int .i64 a1_5]] w fun e w' => e = .returned (.agg #[.int .i64 r1, .bool r2, .int .i64 r3, .int .i64 r4, .int .i64 r5, .int .i64 r6]) ∧ Below w.heap.size w w' := by
 have hu27 := Try.underlying27; have hu36 := Try.underlying36; have dj := Aside0.mk hr0_0; have es := Aside0.mk hc0_0; clear hr0_0 hc0_0; have dk := Aside0.mk hr0_1; have et := Aside0.mk hc0_1; clear hr0_1 hc0_1; have HB := Aside0.mk (Below.refl w.heap.size w); have H : (if a1_1 = true then ((impl_in.f a1_2 0 (wrap64 ((l0_1.length : Int) - 1))).bind fun bB => (if bB = true then (if 0 ≤ a1_2 then (if a1_2 < (l0_1.length : Int) then (if rdOf false l0_1 a1_2 = true then ((impl_Bare.f a1_0 a1_1 a1_2 a1_3 a1_4 a1_5).bind fun bb => (some (bb.1, bb.2.1, bb.2.2.1, bb.2.2.2.1, bb.2.2.2.2.1, bb.2.2.2.2.2))) else (some (a1_0, a1_1, a1_2, a1_3, a1_4, a1_5))) else (none)) else (none)) else (some (a1_0, a1_1, a1_2, a1_3, a1_4, a1_5)))) else (some (a1_0, a1_1, a1_2, a1_3, a1_4, a1_5))) = some (r1, r2, r3, r4, r5, r6) := h; clear h
 by_cases c3 : a1_1 = true
 ·subst c3
  have H1 : ((impl_in.f a1_2 0 (wrap64 ((l0_1.length : Int) - 1))).bind fun bB => (if bB = true then (if 0 ≤ a1_2 then (if a1_2 < (l0_1.length : Int) then (if rdOf false l0_1 a1_2 = true then ((impl_Bare.f a1_0 true a1_2 a1_3 a1_4 a1_5).bind fun bb => (some (bb.1, bb.2.1, bb.2.2.1, bb.2.2.2.1, bb.2.2.2.2.1, bb.2.2.2.2.2))) else (some (a1_0, true, a1_2, a1_3, a1_4, a1_5))) else (none)) else (none)) else (some (a1_0, true, a1_2, a1_3, a1_4, a1_5)))) = some (r1, r2, r3, r4, r5, r6) := by rw [if_pos rfl] at H; exact H
  clear H; have H := H1; clear H1; replace H := Option.bind_eq_some_iff.mp H; obtain ⟨bB, A40, H⟩ := H; replace H : (if bB = true then (if 0 ≤ a1_2 then (if a1_2 < (l0_1.length : Int) then (if rdOf false l0_1 a1_2 = true then ((impl_Bare.f a1_0 true a1_2 a1_3 a1_4 a1_5).bind fun bb => (some (bb.1, bb.2.1, bb.2.2.1, bb.2.2.2.1, bb.2.2.2.2.1, bb.2.2.2.2.2))) else (some (a1_0, true, a1_2, a1_3, a1_4, a1_5))) else (none)) else (none)) else (some (a1_0, true, a1_2, a1_3, a1_4, a1_5))) = some (r1, r2, r3, r4, r5, r6) := H; have A4 := Aside0.mk A40; clear A40
  by_cases c5 : bB = true
  ·subst c5
   have H1 : (if 0 ≤ a1_2 then (if a1_2 < (l0_1.length : Int) then (if rdOf false l0_1 a1_2 = true then ((impl_Bare.f a1_0 true a1_2 a1_3 a1_4 a1_5).bind fun bb => (some (bb.1, bb.2.1, bb.2.2.1, bb.2.2.2.1, bb.2.2.2.2.1, bb.2.2.2.2.2))) else (some (a1_0, true, a1_2, a1_3, a1_4, a1_5))) else (none)) else (none)) = some (r1, r2, r3, r4, r5, r6) := by rw [if_pos rfl] at H; exact H
   clear H; have H := H1; clear H1
   by_cases c6 : 0 ≤ a1_2
   ·rw [if_pos c6] at H
    have c6b0 : decide (0 ≤ a1_2) = true := decide_eq_true c6; clear c6
    by_cases c7 : a1_2 < (l0_1.length : Int)
    ·rw [if_pos c7] at H
     have c7b0 : decide (a1_2 < (l0_1.length : Int)) = true := decide_eq_true c7; clear c7; obtain ⟨bq8, hbq8⟩ : ∃ b_ : Bool, b_ = (rdOf false l0_1 a1_2) := ⟨_, rfl⟩; replace H : (if bq8 = true then ((impl_Bare.f a1_0 true a1_2 a1_3 a1_4 a1_5).bind fun bb => (some (bb.1, bb.2.1, bb.2.2.1, bb.2.2.2.1, bb.2.2.2.2.1, bb.2.2.2.2.2))) else (some (a1_0, true, a1_2, a1_3, a1_4, a1_5))) = some (r1, r2, r3, r4, r5, r6) := by rw [← hbq8] at H; exact H
     have Nbq8 := Aside0.mk hbq8; clear hbq8
     by_cases c9 : bq8 = true
     ·subst c9
      have H1 : ((impl_Bare.f a1_0 true a1_2 a1_3 a1_4 a1_5).bind fun bb => (some (bb.1, bb.2.1, bb.2.2.1, bb.2.2.2.1, bb.2.2.2.2.1, bb.2.2.2.2.2))) = some (r1, r2, r3, r4, r5, r6) := by rw [if_pos rfl] at H; exact H
      clear H; have H := H1; clear H1; replace H := Option.bind_eq_some_iff.mp H; obtain ⟨⟨dy, dz, dA, dB, dC, dD⟩, A100, H⟩ := H; replace H : (some (dy, dz, dA, dB, dC, dD)) = some (r1, r2, r3, r4, r5, r6) := H; have A10 := Aside0.mk A100; clear A100; simp only [Option.some.injEq, Prod.mk.injEq] at H; obtain ⟨rfl, rfl, rfl, rfl, rfl, rfl⟩ := H
      go_enter Try.func16, Try.ntmps16
      go_wp2_with (first | ((with_reducible refine gate_dst (N := 2) rfl ?_); (try (refine gate_guard (by rfl) ?_; dsimp only)); refine bxe 2 #[.slice A0_0 l0_0.length c0_0, .slice A0_1 l0_1.length c0_1] 27 ?_; intro b1 hg eI hbox hb; have ba := hbox; have dE := nge HB hg; have dF := nge HB hg; replace HB := nbs HB hb; clear hb hbox hg) | ((with_reducible refine gate_dst (N := 3) rfl ?_); (try (refine gate_guard (by rfl) ?_; dsimp only)); refine bxe 3 #[.int .i64 a1_0, .bool true, .int .i64 a1_2, .int .i64 a1_3, .int .i64 a1_4, .int .i64 a1_5] 36 ?_; intro b2 hg eJ hbox hb; have bd := hbox; have dG := nge HB hg; have dH := nge HB hg; have bM := nlt ba hg; have bN := ngt ba hg; replace ba := nblk ba hb; replace HB := nbs HB hb; clear hb hbox hg) | ((with_reducible refine gate_dst (N := 4) rfl ?_); (try (refine gate_guard (by rfl) ?_; dsimp only)); refine bxe 4 #[.int .i64 0, .bool false, .int .i64 0, .int .i64 0, .int .i64 0, .int .i64 0] 36 ?_; intro bw hg bq hbox hb; have bi := hbox; have dI := nge HB hg; have dJ := nge HB hg; have bO := nlt ba hg; have bP := ngt ba hg; have bQ := nlt bd hg; have bR := ngt bd hg; replace ba := nblk ba hb; replace bd := nblk bd hb; replace HB := nbs HB hb; clear hb hbox hg; have gG := bN.out; have gH := bM.out; have gI := bQ.out; have gJ := bR.out; obtain ⟨dK, dL, dM, gK, gL, gM⟩ := c6e bd; obtain ⟨dN, dO, dP, gN, gO, gP⟩ := z6_ bd; have gQ := bO.out; have gR := bP.out; obtain ⟨dQ, dR⟩ := c2e ba; obtain ⟨dS, dT⟩ := z2_ ba) | (go_at_call 27; (with_reducible refine (impl_in.calls a1_2 0 (wrap64 ((l0_1.length : Int) - 1)) true _ A4.out).mono ?_); rintro e w' ⟨rfl, ⟨nd, rfl⟩⟩; (try (rw [drewN_self bq]; generalize hq_ : World.drewN bq _ = bq; replace ba : Aside0 (bq.heap[b1]? = some (.cells #[.slice A0_0 l0_0.length c0_0, .slice A0_1 l0_1.length c0_1] 27 (0, 0))) := ⟨by rw [← hq_]; exact (nb ba)⟩; replace bd : Aside0 (bq.heap[b2]? = some (.cells #[.int .i64 a1_0, .bool true, .int .i64 a1_2, .int .i64 a1_3, .int .i64 a1_4, .int .i64 a1_5] 36 (0, 0))) := ⟨by rw [← hq_]; exact (nb bd)⟩; replace bi : Aside0 (bq.heap[bw]? = some (.cells #[.int .i64 0, .bool false, .int .i64 0, .int .i64 0, .int .i64 0, .int .i64 0] 36 (0, 0))) := ⟨by rw [← hq_]; exact (nb bi)⟩; replace HB : Aside0 (Below w.heap.size w bq) := ⟨by rw [← hq_]; exact (nbe HB)⟩; clear hq_)); obtain ⟨gS, gT⟩ := c2e ba; obtain ⟨gU, gV⟩ := z2_ ba; obtain ⟨dU, dV, dW, gW, gX, gY⟩ := c6e bd; obtain ⟨dX, dY, dZ, gZ, g0, g1⟩ := z6_ bd; have p147 : 0 ≤ (a1_2 : Int) := of_decide_eq_true (by first | (with_reducible assumption) | assumption); have q147 : a1_2 < (l0_1.length : Int) := of_decide_eq_true (by first | (with_reducible assumption) | assumption); obtain ⟨eK, e147, bz⟩ := Kd.at_bool dk.out a1_2 p147 q147; (try rw [← Nbq8.out] at bz); (try rw [← Nbq8.out] at d0); (try rw [← Nbq8.out] at d0); cases e147; replace bz := (HB.out.cell (World.block_lt_of_cell? w _ bz)).trans bz; replace p147 := eq_true p147; replace q147 := eq_true q147) | ((with_reducible refine gate_callee (f := 38) rfl ?_); refine goesM (some 27) rfl rfl Try.func38 (by kernel_rfl) rfl #[.agg #[.int .i64 a1_0, .bool true, .int .i64 a1_2, .int .i64 a1_3, .int .i64 a1_4, .int .i64 a1_5]] rfl ?_; (with_reducible refine (impl_Bare.calls a1_0 true a1_2 a1_3 a1_4 a1_5 dy dz dA dB dC dD _ A10.out).mono ?_); rintro e g2 ⟨rfl, hb⟩; refine ⟨_, rfl, ?_⟩; replace ba := nblk ba hb; replace bd := nblk bd hb; replace bi := nblk bi hb; replace HB := nbs HB hb; (try clear hb); obtain ⟨g3, g4, g5, g6, g7, g8⟩ := c6e bi; obtain ⟨g9, ha, hc, hd, hf, hh⟩ := z6_ bi))
      refine bodyPost_ret (results_cell_row rfl _ _ bw 36 #[.int .i64 dy, .bool dz, .int .i64 dA, .int .i64 dB, .int .i64 dC, .int .i64 dD] (0, 0) _ rfl (q6 bi) Try.underlying36 rfl (by kernel_rfl)) rfl ?_; exact ⟨er_, nbe HB⟩
     ·replace c9 := Bool.eq_false_iff.mpr c9
      subst c9; have H1 : (some (a1_0, true, a1_2, a1_3, a1_4, a1_5)) = some (r1, r2, r3, r4, r5, r6) := by rw [if_neg (show ¬ (false = true) by decide)] at H; exact H
      clear H; have H := H1; clear H1; simp only [Option.some.injEq, Prod.mk.injEq] at H; obtain ⟨rfl, rfl, rfl, rfl, rfl, rfl⟩ := H
      go_enter Try.func16, Try.ntmps16
      go_wp2_with (first | ((with_reducible refine gate_dst (N := 2) rfl ?_); (try (refine gate_guard (by rfl) ?_; dsimp only)); refine bxe 2 #[.slice A0_0 l0_0.length c0_0, .slice A0_1 l0_1.length c0_1] 27 ?_; intro b1 hg hj hbox hb; have ba := hbox; have dE := nge HB hg; have dF := nge HB hg; replace HB := nbs HB hb; clear hb hbox hg) | ((with_reducible refine gate_dst (N := 3) rfl ?_); (try (refine gate_guard (by rfl) ?_; dsimp only)); refine bxe 3 #[.int .i64 a1_0, .bool true, .int .i64 a1_2, .int .i64 a1_3, .int .i64 a1_4, .int .i64 a1_5] 36 ?_; intro b2 hg hl hbox hb; have bd := hbox; have dG := nge HB hg; have dH := nge HB hg; have bM := nlt ba hg; have bN := ngt ba hg; replace ba := nblk ba hb; replace HB := nbs HB hb; clear hb hbox hg) | ((with_reducible refine gate_dst (N := 4) rfl ?_); (try (refine gate_guard (by rfl) ?_; dsimp only)); refine bxe 4 #[.int .i64 0, .bool false, .int .i64 0, .int .i64 0, .int .i64 0, .int .i64 0] 36 ?_; intro bw hg bS hbox hb; have bi := hbox; have dI := nge HB hg; have dJ := nge HB hg; have bO := nlt ba hg; have bP := ngt ba hg; have bQ := nlt bd hg; have bR := ngt bd hg; replace ba := nblk ba hb; replace bd := nblk bd hb; replace HB := nbs HB hb; clear hb hbox hg; have hm := bN.out; have hn := bM.out; have ho := bQ.out; have hp := bR.out; obtain ⟨hq, hr, hs, ht, hu, hv⟩ := c6e bd; obtain ⟨hw, hx, hy, hz, hA, hB⟩ := z6_ bd; have hC := bO.out; have hD := bP.out; obtain ⟨hE, hF⟩ := c2e ba; obtain ⟨hG, hH⟩ := z2_ ba) | (go_at_call 27; (with_reducible refine (impl_in.calls a1_2 0 (wrap64 ((l0_1.length : Int) - 1)) true _ A4.out).mono ?_); rintro e w' ⟨rfl, ⟨nd, rfl⟩⟩; (try (rw [drewN_self bS]; generalize hq_ : World.drewN bS _ = bS; replace ba : Aside0 (bS.heap[b1]? = some (.cells #[.slice A0_0 l0_0.length c0_0, .slice A0_1 l0_1.length c0_1] 27 (0, 0))) := ⟨by rw [← hq_]; exact (nb ba)⟩; replace bd : Aside0 (bS.heap[b2]? = some (.cells #[.int .i64 a1_0, .bool true, .int .i64 a1_2, .int .i64 a1_3, .int .i64 a1_4, .int .i64 a1_5] 36 (0, 0))) := ⟨by rw [← hq_]; exact (nb bd)⟩; replace bi : Aside0 (bS.heap[bw]? = some (.cells #[.int .i64 0, .bool false, .int .i64 0, .int .i64 0, .int .i64 0, .int .i64 0] 36 (0, 0))) := ⟨by rw [← hq_]; exact (nb bi)⟩; replace HB : Aside0 (Below w.heap.size w bS) := ⟨by rw [← hq_]; exact (nbe HB)⟩; clear hq_)); obtain ⟨hI, hJ⟩ := c2e ba; obtain ⟨hK, hL⟩ := z2_ ba; obtain ⟨hM, hN, hO, hQ, hR, hS⟩ := c6e bd; obtain ⟨hT, hU, hV, hW, hX, hY⟩ := z6_ bd; have p147 : 0 ≤ (a1_2 : Int) := of_decide_eq_true (by first | (with_reducible assumption) | assumption); have q147 : a1_2 < (l0_1.length : Int) := of_decide_eq_true (by first | (with_reducible assumption) | assumption); obtain ⟨eK, e147, bz⟩ := Kd.at_bool dk.out a1_2 p147 q147; (try rw [← Nbq8.out] at bz); (try rw [← Nbq8.out] at d0); (try rw [← Nbq8.out] at d0); cases e147; replace bz := (HB.out.cell (World.block_lt_of_cell? w _ bz)).trans bz; replace p147 := eq_true p147; replace q147 := eq_true q147; obtain ⟨hZ, h0, h1, h2, h3, h4⟩ := c6e bi; obtain ⟨h5, h6, h7, h8, h9, ia⟩ := z6_ bi))
      refine bodyPost_ret (results_cell_row rfl _ _ bw 36 #[.int .i64 a1_0, .bool true, .int .i64 a1_2, .int .i64 a1_3, .int .i64 a1_4, .int .i64 a1_5] (0, 0) _ rfl (q6 bi) Try.underlying36 rfl (by kernel_rfl)) rfl ?_; exact ⟨er_, nbe HB⟩
    ·rw [if_neg c7] at H
     exact absurd H (by simp)
   ·rw [if_neg c6] at H
    exact absurd H (by simp)
  ·replace c5 := Bool.eq_false_iff.mpr c5
   subst c5; have H1 : (some (a1_0, true, a1_2, a1_3, a1_4, a1_5)) = some (r1, r2, r3, r4, r5, r6) := by rw [if_neg (show ¬ (false = true) by decide)] at H; exact H
   clear H; have H := H1; clear H1; simp only [Option.some.injEq, Prod.mk.injEq] at H; obtain ⟨rfl, rfl, rfl, rfl, rfl, rfl⟩ := H
   go_enter Try.func16, Try.ntmps16
   go_wp2_with (first | ((with_reducible refine gate_dst (N := 2) rfl ?_); (try (refine gate_guard (by rfl) ?_; dsimp only)); refine bxe 2 #[.slice A0_0 l0_0.length c0_0, .slice A0_1 l0_1.length c0_1] 27 ?_; intro b1 hg ib hbox hb; have ba := hbox; have dE := nge HB hg; have dF := nge HB hg; replace HB := nbs HB hb; clear hb hbox hg) | ((with_reducible refine gate_dst (N := 3) rfl ?_); (try (refine gate_guard (by rfl) ?_; dsimp only)); refine bxe 3 #[.int .i64 a1_0, .bool true, .int .i64 a1_2, .int .i64 a1_3, .int .i64 a1_4, .int .i64 a1_5] 36 ?_; intro b2 hg ic hbox hb; have bd := hbox; have dG := nge HB hg; have dH := nge HB hg; have bM := nlt ba hg; have bN := ngt ba hg; replace ba := nblk ba hb; replace HB := nbs HB hb; clear hb hbox hg) | ((with_reducible refine gate_dst (N := 4) rfl ?_); (try (refine gate_guard (by rfl) ?_; dsimp only)); refine bxe 4 #[.int .i64 0, .bool false, .int .i64 0, .int .i64 0, .int .i64 0, .int .i64 0] 36 ?_; intro bw hg bT hbox hb; have bi := hbox; have dI := nge HB hg; have dJ := nge HB hg; have bO := nlt ba hg; have bP := ngt ba hg; have bQ := nlt bd hg; have bR := ngt bd hg; replace ba := nblk ba hb; replace bd := nblk bd hb; replace HB := nbs HB hb; clear hb hbox hg; have ig := bN.out; have ih := bM.out; have ii := bQ.out; have ij := bR.out; obtain ⟨ik, il, im, io, ip, iq⟩ := c6e bd; obtain ⟨ir, iu, iv, iw, ix, iy⟩ := z6_ bd; have iz := bO.out; have iA := bP.out; obtain ⟨iB, iC⟩ := c2e ba; obtain ⟨iD, iE⟩ := z2_ ba) | (go_at_call 27; (with_reducible refine (impl_in.calls a1_2 0 (wrap64 ((l0_1.length : Int) - 1)) false _ A4.out).mono ?_); rintro e w' ⟨rfl, ⟨nd, rfl⟩⟩; (try (rw [drewN_self bT]; generalize hq_ : World.drewN bT _ = bT; replace ba : Aside0 (bT.heap[b1]? = some (.cells #[.slice A0_0 l0_0.length c0_0, .slice A0_1 l0_1.length c0_1] 27 (0, 0))) := ⟨by rw [← hq_]; exact (nb ba)⟩; replace bd : Aside0 (bT.heap[b2]? = some (.cells #[.int .i64 a1_0, .bool true, .int .i64 a1_2, .int .i64 a1_3, .int .i64 a1_4, .int .i64 a1_5] 36 (0, 0))) := ⟨by rw [← hq_]; exact (nb bd)⟩; replace bi : Aside0 (bT.heap[bw]? = some (.cells #[.int .i64 0, .bool false, .int .i64 0, .int .i64 0, .int .i64 0, .int .i64 0] 36 (0, 0))) := ⟨by rw [← hq_]; exact (nb bi)⟩; replace HB : Aside0 (Below w.heap.size w bT) := ⟨by rw [← hq_]; exact (nbe HB)⟩; clear hq_)); obtain ⟨iF, iG, iH, iI, iJ, iK⟩ := c6e bd; obtain ⟨iL, iM, iN, iO, iP, iQ⟩ := z6_ bd; obtain ⟨iR, iS, iT, iU, iV, iW⟩ := c6e bi; obtain ⟨iX, iY, iZ, i0, i1, i2⟩ := z6_ bi))
   refine bodyPost_ret (results_cell_row rfl _ _ bw 36 #[.int .i64 a1_0, .bool true, .int .i64 a1_2, .int .i64 a1_3, .int .i64 a1_4, .int .i64 a1_5] (0, 0) _ rfl (q6 bi) Try.underlying36 rfl (by kernel_rfl)) rfl ?_; exact ⟨er_, nbe HB⟩
 ·replace c3 := Bool.eq_false_iff.mpr c3
  subst c3; have H1 : (some (a1_0, false, a1_2, a1_3, a1_4, a1_5)) = some (r1, r2, r3, r4, r5, r6) := by rw [if_neg (show ¬ (false = true) by decide)] at H; exact H
  clear H; have H := H1; clear H1; simp only [Option.some.injEq, Prod.mk.injEq] at H; obtain ⟨rfl, rfl, rfl, rfl, rfl, rfl⟩ := H
  go_enter Try.func16, Try.ntmps16
  go_wp2_with (first | ((with_reducible refine gate_dst (N := 2) rfl ?_); (try (refine gate_guard (by rfl) ?_; dsimp only)); refine bxe 2 #[.slice A0_0 l0_0.length c0_0, .slice A0_1 l0_1.length c0_1] 27 ?_; intro b1 hg i3 hbox hb; have ba := hbox; have dE := nge HB hg; have dF := nge HB hg; replace HB := nbs HB hb; clear hb hbox hg) | ((with_reducible refine gate_dst (N := 3) rfl ?_); (try (refine gate_guard (by rfl) ?_; dsimp only)); refine bxe 3 #[.int .i64 a1_0, .bool false, .int .i64 a1_2, .int .i64 a1_3, .int .i64 a1_4, .int .i64 a1_5] 36 ?_; intro b2 hg i4 hbox hb; have bd := hbox; have dG := nge HB hg; have dH := nge HB hg; have bM := nlt ba hg; have bN := ngt ba hg; replace ba := nblk ba hb; replace HB := nbs HB hb; clear hb hbox hg) | ((with_reducible refine gate_dst (N := 4) rfl ?_); (try (refine gate_guard (by rfl) ?_; dsimp only)); refine bxe 4 #[.int .i64 0, .bool false, .int .i64 0, .int .i64 0, .int .i64 0, .int .i64 0] 36 ?_; intro bw hg i5 hbox hb; have bi := hbox; have dI := nge HB hg; have dJ := nge HB hg; have bO := nlt ba hg; have bP := ngt ba hg; have bQ := nlt bd hg; have bR := ngt bd hg; replace ba := nblk ba hb; replace bd := nblk bd hb; replace HB := nbs HB hb; clear hb hbox hg; have i6 := bN.out; have i7 := bM.out; have i8 := bQ.out; have i9 := bR.out; obtain ⟨ja, jb, jc, jd, je, jf⟩ := c6e bd; obtain ⟨jg, jh, ji, jj, jk, jl⟩ := z6_ bd; have jm := bP.out; have jn := bO.out; obtain ⟨jo, jp, jq, jr, js, jt⟩ := c6e bi; obtain ⟨ju, jv, jw, jx, jy, jz⟩ := z6_ bi))
  refine bodyPost_ret (results_cell_row rfl _ _ bw 36 #[.int .i64 a1_0, .bool false, .int .i64 a1_2, .int .i64 a1_3, .int .i64 a1_4, .int .i64 a1_5] (0, 0) _ rfl (q6 bi) Try.underlying36 rfl (by kernel_rfl)) rfl ?_; exact ⟨er_, nbe HB⟩

/-! ### impl_BoundsOk: function 69 -/
def impl_BoundsOk.f (a0 : Int) (a1 : Int) : Option (Bool) := (impl_in.f a0 0 a1).bind fun b3 => (if b3 = true then (some (decide (a1 ≤ 4096))) else (some false))
set_option maxHeartbeats 8000000 in
set_option maxRecDepth 100000 in
theorem impl_BoundsOk.calls (a0 : Int) (a1 : Int) (r : Bool) (w : World) (h : impl_BoundsOk.f a0 a1 = some r) :
  Calls Try.prog 69 #[.int .i64 a0, .int .i64 a1] w fun e w' => e = .returned (.bool r) ∧ Drawn0 w w' := by
 have H : ((impl_in.f a0 0 a1).bind fun b3 => (if b3 = true then (some (decide (a1 ≤ 4096))) else (some false))) = some r := h; clear h; replace H := Option.bind_eq_some_iff.mp H; obtain ⟨b3, A30, H⟩ := H; replace H : (if b3 = true then (some (decide (a1 ≤ 4096))) else (some false)) = some r := H; have A3 := Aside0.mk A30; clear A30
 by_cases c4 : b3 = true
 ·subst c4
  have H1 : (some (decide (a1 ≤ 4096))) = some r := by rw [if_pos rfl] at H; exact H
  clear H; have H := H1; clear H1; obtain rfl := Option.some.inj H
  go_enter Try.func69, Try.ntmps69
  go_wp2_with (first | ((with_reducible refine gate_callee (f := 27) rfl ?_); refine goesM (some 7) rfl rfl Try.func27 (by kernel_rfl) rfl #[.int .i64 a0, .int .i64 0, .int .i64 a1] rfl ?_; (with_reducible refine (impl_in.calls a0 0 a1 true _ A3.out).mono ?_); rintro e w' ⟨rfl, ⟨nd, rfl⟩⟩; refine ⟨_, rfl, ?_⟩))
  go_ret
  exact ⟨by first | rfl | (simp; done) | (simp [*]; done), by repeat (first | exact Drawn0.refl _ | apply Drawn0.step)⟩
 ·replace c4 := Bool.eq_false_iff.mpr c4
  subst c4; have H1 : (some false) = some r := by rw [if_neg (show ¬ (false = true) by decide)] at H; exact H
  clear H; have H := H1; clear H1; obtain rfl := Option.some.inj H
  go_enter Try.func69, Try.ntmps69
  go_wp2_with (first | ((with_reducible refine gate_callee (f := 27) rfl ?_); refine goesM (some 7) rfl rfl Try.func27 (by kernel_rfl) rfl #[.int .i64 a0, .int .i64 0, .int .i64 a1] rfl ?_; (with_reducible refine (impl_in.calls a0 0 a1 false _ A3.out).mono ?_); rintro e w' ⟨rfl, ⟨nd, rfl⟩⟩; refine ⟨_, rfl, ?_⟩))
  go_ret
  exact ⟨by first | rfl | (simp; done) | (simp [*]; done), by repeat (first | exact Drawn0.refl _ | apply Drawn0.step)⟩

/-! ### impl_Pack: function 73 -/
def impl_Pack.l0 : Nat → Int → Int → Int → Option (Int × Int × Int × Bool)
 | 0, _, _, _ => none
 | k + 1, x0, x1, bm => if bm < 7 then (if 0 ≤ bm then (if (shl .i64 1 bm) = 0 then (none) else (if (wrap64 (Int.tdiv x0 (shl .i64 1 bm))) ≤ 63 then (if (wrap64 (Int.tdiv (wrap64 ((wrap64 ((wrap64 (x1 - (wrap64 ((wrap64 (Int.tdiv x0 (shl .i64 1 bm))) * (shl .i64 1 bm))))) + (shl .i64 1 bm))) - 1)) (shl .i64 1 bm))) ≤ 63 then (some (bm, wrap64 (Int.tdiv x0 (shl .i64 1 bm)), wrap64 (Int.tdiv (wrap64 ((wrap64 ((wrap64 (x1 - (wrap64 ((wrap64 (Int.tdiv x0 (shl .i64 1 bm))) * (shl .i64 1 bm))))) + (shl .i64 1 bm))) - 1)) (shl .i64 1 bm)), true)) else (impl_Pack.l0 k x0 x1 (wrap64 (bm + 1)))) else (impl_Pack.l0 k x0 x1 (wrap64 (bm + 1))))) else (none)) else (some (0, 0, 0, false))
def impl_Pack.f (k : Nat) (a0 : Int) (a1 : Int) : Option (Int × Int × Int × Bool) := (impl_BoundsOk.f a0 a1).bind fun b4 => (if b4 = true then (impl_Pack.l0 k a0 a1 0) else (some (0, 0, 0, false)))
theorem impl_Pack.mono_l : ∀ k, (∀ y0 y1 y2, LeO (impl_Pack.l0 k y0 y1 y2) (impl_Pack.l0 (k + 1) y0 y1 y2))
 | 0 => fun _ _ _ r h => by simp [impl_Pack.l0] at h
 | k + 1 => by
  have ih0 := impl_Pack.mono_l k
  ·intro y0 y1 y2
   unfold impl_Pack.l0
   repeat' first
   | (with_reducible exact ih0 _ _ _)
   | (with_reducible exact LeO.refl _)
   | (with_reducible exact LeO.none _)
   | (with_reducible refine LeO.ite ?_ ?_)
   | (with_reducible refine LeO.bind ?_ (fun _ => ?_))
   | exact ih0 _ _ _
   | exact LeO.none _
   | refine LeO.ite ?_ ?_
   | refine LeO.bind ?_ (fun _ => ?_)
theorem impl_Pack.mono : ∀ a0 a1 k, LeO (impl_Pack.f k a0 a1) (impl_Pack.f (k + 1) a0 a1) := by
 intro a0 a1 k; have ih0 := impl_Pack.mono_l k
 unfold impl_Pack.f
 repeat' first
   | (with_reducible exact ih0 _ _ _)
   | (with_reducible exact LeO.refl _)
   | (with_reducible exact LeO.none _)
   | (with_reducible refine LeO.ite ?_ ?_)
   | (with_reducible refine LeO.bind ?_ (fun _ => ?_))
   | exact ih0 _ _ _
   | exact LeO.none _
   | refine LeO.ite ?_ ?_
   | refine LeO.bind ?_ (fun _ => ?_)
set_option maxHeartbeats 8000000 in
set_option maxRecDepth 100000 in
theorem impl_Pack.calls (k : Nat) (a0 : Int) (a1 : Int) (r1 : Int) (r2 : Int) (r3 : Int) (r4 : Bool) (w : World) (h : impl_Pack.f k a0 a1 = some (r1, r2, r3, r4)) :
  Calls Try.prog 73 #[.int .i64 a0, .int .i64 a1] w fun e w' => e = .returned (.tuple #[.agg #[.int .i64 r1, .int .i64 r2, .int .i64 r3], .bool r4]) ∧ Below w.heap.size w w' := by
 have hu82 := Try.underlying82; have HB := Aside0.mk (Below.refl w.heap.size w); have H : ((impl_BoundsOk.f a0 a1).bind fun b4 => (if b4 = true then (impl_Pack.l0 k a0 a1 0) else (some (0, 0, 0, false)))) = some (r1, r2, r3, r4) := h; clear h; replace H := Option.bind_eq_some_iff.mp H; obtain ⟨b4, A30, H⟩ := H; replace H : (if b4 = true then (impl_Pack.l0 k a0 a1 0) else (some (0, 0, 0, false))) = some (r1, r2, r3, r4) := H; have A3 := Aside0.mk A30; clear A30
 by_cases c4 : b4 = true
 ·subst c4
  have H1 : (impl_Pack.l0 k a0 a1 0) = some (r1, r2, r3, r4) := by rw [if_pos rfl] at H; exact H
  clear H; have H := H1; clear H1; have H' := Aside0.mk H; clear H
  go_enter Try.func73, Try.ntmps73
  go_wp2_with (first | ((with_reducible refine gate_dst (N := 4) rfl ?_); refine bxe 4 #[.int .i64 0, .int .i64 0, .int .i64 0] 82 ?_; intro b5 hg w5 hbox hb; have bn := hbox; have eL := nge HB hg; have eM := nge HB hg; replace HB := nbs HB hb; clear hb hbox hg) | ((with_reducible refine gate_callee (f := 69) rfl ?_); refine goesM (some 12) rfl rfl Try.func69 (by kernel_rfl) rfl #[.int .i64 a0, .int .i64 a1] rfl ?_; (with_reducible refine (impl_BoundsOk.calls a0 a1 true _ A3.out).mono ?_); rintro e w' ⟨rfl, ⟨nd, rfl⟩⟩; refine ⟨_, rfl, ?_⟩))
  go_loopg [15] k (fun kq eN w' => ∃ (bh : Int) (de : Int) (df : Int) (dg : Int), eN = .int .i64 bh ∧ Aside0 (impl_Pack.l0 kq a0 a1 bh = some (r1, r2, r3, r4)) ∧ Aside0 (kq ≤ k) ∧ Aside0 (w'.heap[b5]? = some (.cells #[.int .i64 de, .int .i64 df, .int .i64 dg] 82 (0, 0))) ∧ Aside0 (Below w.heap.size w w'))
  case atStart => exact ⟨(0), (0), (0), (0), (by first | rfl | (simp; done) | (simp [*]; done)), H', ⟨Nat.le_refl _⟩, ⟨nb bn⟩, ⟨nbe HB⟩⟩
  case round =>
   clear H'; try clear p2
   try clear c4
   obtain ⟨bh, de, df, dg, rfl, HA, dh, bn, HB⟩ := hrel
   cases gk with
   | zero => exact absurd HA.out (by simp [impl_Pack.l0])
   | succ k1 =>
    have H := HA.out; clear HA; simp only [impl_Pack.l0] at H
    by_cases c6 : bh < 7
    ·rw [if_pos c6] at H
     have c6b0 : decide (bh < 7) = true := decide_eq_true c6; clear c6
     by_cases c7 : 0 ≤ bh
     ·rw [if_pos c7] at H
      have c7b0 := eq_true c7; have c7b1 : decide (0 ≤ bh) = true := decide_eq_true c7; clear c7; obtain ⟨bf, da⟩ : ∃ j_ : Int, (shl .i64 1 bh) = j_ := ⟨_, rfl⟩; replace H : (if (bf) = 0 then (none) else (if (wrap64 (Int.tdiv a0 (bf))) ≤ 63 then (if (wrap64 (Int.tdiv (wrap64 ((wrap64 ((wrap64 (a1 - (wrap64 ((wrap64 (Int.tdiv a0 (bf))) * (bf))))) + (bf))) - 1)) (bf))) ≤ 63 then (some (bh, wrap64 (Int.tdiv a0 (bf)), wrap64 (Int.tdiv (wrap64 ((wrap64 ((wrap64 (a1 - (wrap64 ((wrap64 (Int.tdiv a0 (bf))) * (bf))))) + (bf))) - 1)) (bf)), true)) else (impl_Pack.l0 k1 a0 a1 (wrap64 (bh + 1)))) else (impl_Pack.l0 k1 a0 a1 (wrap64 (bh + 1))))) = some (r1, r2, r3, r4) := by first | (rw [da] at H; exact H) | (simp only [da] at H ⊢; exact H)
      have ee : (IntKind.i64.wrap (1 * 2 ^ min bh.toNat 64)) = bf := da; have ef : bh ≤ 64 → (IntKind.i64.wrap (1 * 2 ^ bh.toNat)) = bf := shl_small da; have jA : (IntKind.i64.wrap (2 ^ min bh.toNat 64)) = bf := by have h_ := ee; rw [Int.one_mul] at h_; exact h_
      have jB : bh ≤ 64 → (IntKind.i64.wrap (2 ^ bh.toNat)) = bf := fun hle_ => by have h_ := ef hle_; rw [Int.one_mul] at h_; exact h_
      have jC : (wrap64 (1 * 2 ^ min bh.toNat 64)) = bf := (i64_w _).symm.trans ee; have jD : bh ≤ 64 → (wrap64 (1 * 2 ^ bh.toNat)) = bf := fun h_ => (i64_w _).symm.trans (ef h_)
      by_cases c9 : (bf) = 0
      ·rw [if_pos c9] at H
       exact absurd H (by simp)
      ·rw [if_neg c9] at H
       have c9b0 : ((bf) == 0) = false := beq_eq_false_iff_ne.mpr c9; have c9b1 : ((bf) != 0) = true := bne_iff_ne.mpr c9
       by_cases c10 : (wrap64 (Int.tdiv a0 (bf))) ≤ 63
       ·rw [if_pos c10] at H
        have c10b0 : decide ((wrap64 (Int.tdiv a0 (bf))) ≤ 63) = true := decide_eq_true c10; clear c10
        by_cases c11 : (wrap64 (Int.tdiv (wrap64 ((wrap64 ((wrap64 (a1 - (wrap64 ((wrap64 (Int.tdiv a0 (bf))) * (bf))))) + (bf))) - 1)) (bf))) ≤ 63
        ·rw [if_pos c11] at H
         have c11b0 : decide ((wrap64 (Int.tdiv (wrap64 ((wrap64 ((wrap64 (a1 - (wrap64 ((wrap64 (Int.tdiv a0 (bf))) * (bf))))) + (bf))) - 1)) (bf))) ≤ 63) = true := decide_eq_true c11; clear c11; simp only [Option.some.injEq, Prod.mk.injEq] at H; obtain ⟨rfl, rfl, rfl, rfl⟩ := H; obtain ⟨jE, jF, jG⟩ := c3e bn; obtain ⟨jH, jI, jJ⟩ := z3_ bn; go_wp2; refine bodyPost_ret (results_ct rfl _ _ b5 82 #[.int .i64 bh, .int .i64 (wrap64 (Int.tdiv a0 (bf))), .int .i64 (wrap64 (Int.tdiv (wrap64 ((wrap64 ((wrap64 (a1 - (wrap64 ((wrap64 (Int.tdiv a0 (bf))) * (bf))))) + (bf))) - 1)) (bf)))] (0, 0) _ rfl (q3 bn) Try.underlying82 rfl (by kernel_rfl)) rfl ?_; exact ⟨by first | rfl | (simp [errW_none, errW_some] <;> rfl) | (simp only [← da]; first | rfl | (simp [errW_none, errW_some] <;> rfl)) | (simp [*, errW_none, errW_some] <;> rfl), nbe HB⟩
        ·rw [if_neg c11] at H
         have c11b0 : decide ((wrap64 (Int.tdiv (wrap64 ((wrap64 ((wrap64 (a1 - (wrap64 ((wrap64 (Int.tdiv a0 (bf))) * (bf))))) + (bf))) - 1)) (bf))) ≤ 63) = false := decide_eq_false c11; clear c11; have H' := Aside0.mk H; clear H; go_wp2
         go_roundg k1
         case measure => have := dh.out; omega
         case rel => exact ⟨(wrap64 (bh + 1)), (de), (df), (dg), (by first | rfl | (simp; done) | (simp [*]; done)), H', ⟨by have := dh.out; omega⟩, ⟨nb bn⟩, ⟨nbe HB⟩⟩
       ·rw [if_neg c10] at H
        have c10b0 : decide ((wrap64 (Int.tdiv a0 (bf))) ≤ 63) = false := decide_eq_false c10; clear c10; have H' := Aside0.mk H; clear H; go_wp2
        go_roundg k1
        case measure => have := dh.out; omega
        case rel => exact ⟨(wrap64 (bh + 1)), (de), (df), (dg), (by first | rfl | (simp; done) | (simp [*]; done)), H', ⟨by have := dh.out; omega⟩, ⟨nb bn⟩, ⟨nbe HB⟩⟩
     ·rw [if_neg c7] at H
      exact absurd H (by simp)
    ·rw [if_neg c6] at H
     have c6b0 : decide (bh < 7) = false := decide_eq_false c6; clear c6; simp only [Option.some.injEq, Prod.mk.injEq] at H; obtain ⟨rfl, rfl, rfl, rfl⟩ := H; obtain ⟨ev, ew, jK⟩ := c3e bn; obtain ⟨ex, ey, jL⟩ := z3_ bn; go_wp2; refine bodyPost_ret (results_ct rfl _ _ b5 82 #[.int .i64 0, .int .i64 0, .int .i64 0] (0, 0) _ rfl (q3 bn) Try.underlying82 rfl (by kernel_rfl)) rfl ?_; exact ⟨er_, nbe HB⟩
 ·replace c4 := Bool.eq_false_iff.mpr c4
  subst c4; have H1 : (some (0, 0, 0, false)) = some (r1, r2, r3, r4) := by rw [if_neg (show ¬ (false = true) by decide)] at H; exact H
  clear H; have H := H1; clear H1; simp only [Option.some.injEq, Prod.mk.injEq] at H; obtain ⟨rfl, rfl, rfl, rfl⟩ := H
  go_enter Try.func73, Try.ntmps73
  go_wp2_with (first | ((with_reducible refine gate_dst (N := 4) rfl ?_); refine bxe 4 #[.int .i64 0, .int .i64 0, .int .i64 0] 82 ?_; intro b5 hg b0 hbox hb; have bn := hbox; have eL := nge HB hg; have eM := nge HB hg; replace HB := nbs HB hb; clear hb hbox hg) | ((with_reducible refine gate_callee (f := 69) rfl ?_); refine goesM (some 12) rfl rfl Try.func69 (by kernel_rfl) rfl #[.int .i64 a0, .int .i64 a1] rfl ?_; (with_reducible refine (impl_BoundsOk.calls a0 a1 false _ A3.out).mono ?_); rintro e w' ⟨rfl, ⟨nd, rfl⟩⟩; refine ⟨_, rfl, ?_⟩; (try (rw [drewN_self b0]; generalize hq_ : World.drewN b0 _ = b0; replace bn : Aside0 (b0.heap[b5]? = some (.cells #[.int .i64 0, .int .i64 0, .int .i64 0] 82 (0, 0))) := ⟨by rw [← hq_]; exact (nb bn)⟩; replace HB : Aside0 (Below w.heap.size w b0) := ⟨by rw [← hq_]; exact (nbe HB)⟩; clear hq_)); obtain ⟨eA, eB, jM⟩ := c3e bn; obtain ⟨eC, eD, jN⟩ := z3_ bn))
  refine bodyPost_ret (results_ct rfl _ _ b5 82 #[.int .i64 0, .int .i64 0, .int .i64 0] (0, 0) _ rfl (q3 bn) Try.underlying82 rfl (by kernel_rfl)) rfl ?_; exact ⟨er_, nbe HB⟩

/-! ### impl_Unpack: function 74 -/
def impl_Unpack.f (a0_0 : Int) (a0_1 : Int) (a0_2 : Int) : Option (Int × Int × Bool) := (impl_in.f a0_0 0 6).bind fun b6 => (if b6 = true then ((impl_in.f a0_1 0 63).bind fun bx => (if bx = true then ((impl_in.f a0_2 0 63).bind fun bo => (if bo = true then (if 0 ≤ a0_0 then (some (shl .i64 a0_1 a0_0, mn 4096 (shl .i64 (wrap64 (a0_1 + a0_2)) a0_0), true)) else (none)) else (some (0, 0, false)))) else (some (0, 0, false)))) else (some (0, 0, false)))
set_option maxHeartbeats 8000000 in
set_option maxRecDepth 100000 in
theorem impl_Unpack.calls (a0_0 : Int) (a0_1 : Int) (a0_2 : Int) (r1 : Int) (r2 : Int) (r3 : Bool) (w : World) (h : impl_Unpack.f a0_0 a0_1 a0_2 = some (r1, r2, r3)) :
  Calls Try.prog 74 #[.agg #[.int .i64 a0_0, .int .i64 a0_1, .int .i64 a0_2]] w fun e w' => e = .returned (.tuple #[.int .i64 r1, .int .i64 r2, .bool r3]) ∧ Below w.heap.size w w' := by
 have hu82 := Try.underlying82; have HB := Aside0.mk (Below.refl w.heap.size w); have H : ((impl_in.f a0_0 0 6).bind fun b6 => (if b6 = true then ((impl_in.f a0_1 0 63).bind fun bx => (if bx = true then ((impl_in.f a0_2 0 63).bind fun bo => (if bo = true then (if 0 ≤ a0_0 then (some (shl .i64 a0_1 a0_0, mn 4096 (shl .i64 (wrap64 (a0_1 + a0_2)) a0_0), true)) else (none)) else (some (0, 0, false)))) else (some (0, 0, false)))) else (some (0, 0, false)))) = some (r1, r2, r3) := h; clear h; replace H := Option.bind_eq_some_iff.mp H; obtain ⟨b6, A20, H⟩ := H; replace H : (if b6 = true then ((impl_in.f a0_1 0 63).bind fun bx => (if bx = true then ((impl_in.f a0_2 0 63).bind fun bo => (if bo = true then (if 0 ≤ a0_0 then (some (shl .i64 a0_1 a0_0, mn 4096 (shl .i64 (wrap64 (a0_1 + a0_2)) a0_0), true)) else (none)) else (some (0, 0, false)))) else (some (0, 0, false)))) else (some (0, 0, false))) = some (r1, r2, r3) := H; have A2 := Aside0.mk A20; clear A20
 by_cases c3 : b6 = true
 ·subst c3
  have H1 : ((impl_in.f a0_1 0 63).bind fun bx => (if bx = true then ((impl_in.f a0_2 0 63).bind fun bo => (if bo = true then (if 0 ≤ a0_0 then (some (shl .i64 a0_1 a0_0, mn 4096 (shl .i64 (wrap64 (a0_1 + a0_2)) a0_0), true)) else (none)) else (some (0, 0, false)))) else (some (0, 0, false)))) = some (r1, r2, r3) := by rw [if_pos rfl] at H; exact H
  clear H; have H := H1; clear H1; replace H := Option.bind_eq_some_iff.mp H; obtain ⟨bx, A40, H⟩ := H; replace H : (if bx = true then ((impl_in.f a0_2 0 63).bind fun bo => (if bo = true then (if 0 ≤ a0_0 then (some (shl .i64 a0_1 a0_0, mn 4096 (shl .i64 (wrap64 (a0_1 + a0_2)) a0_0), true)) else (none)) else (some (0, 0, false)))) else (some (0, 0, false))) = some (r1, r2, r3) := H; have A4 := Aside0.mk A40; clear A40
  by_cases c5 : bx = true
  ·subst c5
   have H1 : ((impl_in.f a0_2 0 63).bind fun bo => (if bo = true then (if 0 ≤ a0_0 then (some (shl .i64 a0_1 a0_0, mn 4096 (shl .i64 (wrap64 (a0_1 + a0_2)) a0_0), true)) else (none)) else (some (0, 0, false)))) = some (r1, r2, r3) := by rw [if_pos rfl] at H; exact H
   clear H; have H := H1; clear H1; replace H := Option.bind_eq_some_iff.mp H; obtain ⟨bo, A60, H⟩ := H; replace H : (if bo = true then (if 0 ≤ a0_0 then (some (shl .i64 a0_1 a0_0, mn 4096 (shl .i64 (wrap64 (a0_1 + a0_2)) a0_0), true)) else (none)) else (some (0, 0, false))) = some (r1, r2, r3) := H; have A6 := Aside0.mk A60; clear A60
   by_cases c7 : bo = true
   ·subst c7
    have H1 : (if 0 ≤ a0_0 then (some (shl .i64 a0_1 a0_0, mn 4096 (shl .i64 (wrap64 (a0_1 + a0_2)) a0_0), true)) else (none)) = some (r1, r2, r3) := by rw [if_pos rfl] at H; exact H
    clear H; have H := H1; clear H1
    by_cases c8 : 0 ≤ a0_0
    ·rw [if_pos c8] at H
     have c8b0 := eq_true c8; have c8b1 : decide (0 ≤ a0_0) = true := decide_eq_true c8; clear c8; obtain ⟨bU, bC⟩ : ∃ j_ : Int, (shl .i64 a0_1 a0_0) = j_ := ⟨_, rfl⟩; replace H : (some (bU, mn 4096 (shl .i64 (wrap64 (a0_1 + a0_2)) a0_0), true)) = some (r1, r2, r3) := by first | (rw [bC] at H; exact H) | (simp only [bC] at H ⊢; exact H)
     (try rw [bC] at A2); (try rw [bC] at A4); (try rw [bC] at A6); have eO : (IntKind.i64.wrap (a0_1 * 2 ^ min a0_0.toNat 64)) = bU := bC; have eP : a0_0 ≤ 64 → (IntKind.i64.wrap (a0_1 * 2 ^ a0_0.toNat)) = bU := shl_small bC; have jO : (wrap64 (a0_1 * 2 ^ min a0_0.toNat 64)) = bU := (i64_w _).symm.trans eO; have jP : a0_0 ≤ 64 → (wrap64 (a0_1 * 2 ^ a0_0.toNat)) = bU := fun h_ => (i64_w _).symm.trans (eP h_)
     have c10b0 := eq_true (of_decide_eq_true (by first | (with_reducible assumption) | assumption) : 0 ≤ a0_0); obtain ⟨bD, bE⟩ : ∃ j_ : Int, (shl .i64 (wrap64 (a0_1 + a0_2)) a0_0) = j_ := ⟨_, rfl⟩; replace H : (some (bU, mn 4096 (bD), true)) = some (r1, r2, r3) := by first | (rw [bE] at H; exact H) | (simp only [bE] at H ⊢; exact H)
     (try rw [bE] at A2); (try rw [bE] at A4); (try rw [bE] at A6); have eQ : (IntKind.i64.wrap ((wrap64 (a0_1 + a0_2)) * 2 ^ min a0_0.toNat 64)) = bD := bE; have eR : a0_0 ≤ 64 → (IntKind.i64.wrap ((wrap64 (a0_1 + a0_2)) * 2 ^ a0_0.toNat)) = bD := shl_small bE; have jQ : (wrap64 ((wrap64 (a0_1 + a0_2)) * 2 ^ min a0_0.toNat 64)) = bD := (i64_w _).symm.trans eQ; have jR : a0_0 ≤ 64 → (wrap64 ((wrap64 (a0_1 + a0_2)) * 2 ^ a0_0.toNat)) = bD := fun h_ => (i64_w _).symm.trans (eR h_)
     obtain ⟨eg, bV⟩ : ∃ j_ : Int, (mn 4096 (bD)) = j_ := ⟨_, rfl⟩; replace H : (some (bU, eg, true)) = some (r1, r2, r3) := by first | (rw [bV] at H; exact H) | (simp only [bV] at H ⊢; exact H)
     (try rw [bV] at A2); (try rw [bV] at A4); (try rw [bV] at A6); have jS : (if (bD) < 4096 then (bD) else 4096) = eg := bV; simp only [Option.some.injEq, Prod.mk.injEq] at H; obtain ⟨rfl, rfl, rfl⟩ := H
     go_enter Try.func74, Try.ntmps74
     go_wp2_with (first | ((with_reducible refine gate_dst (N := 1) rfl ?_); refine bxe 1 #[.int .i64 a0_0, .int .i64 a0_1, .int .i64 a0_2] 82 ?_; intro br hg bq hbox hb; have bg := hbox; have bs := nge HB hg; have bt := nge HB hg; replace HB := nbs HB hb; clear hb hbox hg; obtain ⟨d1, d2, d3⟩ := c3e bg; obtain ⟨d4, d5, d6⟩ := z3_ bg) | (go_at_call 27; (with_reducible refine (impl_in.calls a0_0 0 6 true _ A2.out).mono ?_); rintro e w' ⟨rfl, ⟨nd, rfl⟩⟩; (try first | exact ⟨rfl, _, World.drewN_drewN _ _ _⟩ | exact ⟨rfl, _, Eq.trans (World.drewN_drewN _ _ _) (congrArg (World.drewN _) (Nat.add_assoc _ _ _))⟩)) | (go_at_call 27; (with_reducible refine (impl_in.calls a0_1 0 63 true _ A4.out).mono ?_); rintro e w' ⟨rfl, ⟨nd, rfl⟩⟩; (try first | exact ⟨rfl, _, World.drewN_drewN _ _ _⟩ | exact ⟨rfl, _, Eq.trans (World.drewN_drewN _ _ _) (congrArg (World.drewN _) (Nat.add_assoc _ _ _))⟩)) | (go_at_call 27; (with_reducible refine (impl_in.calls a0_2 0 63 true _ A6.out).mono ?_); rintro e w' ⟨rfl, ⟨nd, rfl⟩⟩; (try first | exact ⟨rfl, _, World.drewN_drewN _ _ _⟩ | exact ⟨rfl, _, Eq.trans (World.drewN_drewN _ _ _) (congrArg (World.drewN _) (Nat.add_assoc _ _ _))⟩)))
     repeat (go_quiet (first | ((with_reducible refine gate_dst (N := 1) rfl ?_); refine bxe 1 #[.int .i64 a0_0, .int .i64 a0_1, .int .i64 a0_2] 82 ?_; intro br hg bq hbox hb; have bg := hbox; have bs := nge HB hg; have bt := nge HB hg; replace HB := nbs HB hb; clear hb hbox hg; obtain ⟨d1, d2, d3⟩ := c3e bg; obtain ⟨d4, d5, d6⟩ := z3_ bg) | (go_at_call 27; (with_reducible refine (impl_in.calls a0_0 0 6 true _ A2.out).mono ?_); rintro e w' ⟨rfl, ⟨nd, rfl⟩⟩; (try first | exact ⟨rfl, _, World.drewN_drewN _ _ _⟩ | exact ⟨rfl, _, Eq.trans (World.drewN_drewN _ _ _) (congrArg (World.drewN _) (Nat.add_assoc _ _ _))⟩)) | (go_at_call 27; (with_reducible refine (impl_in.calls a0_1 0 63 true _ A4.out).mono ?_); rintro e w' ⟨rfl, ⟨nd, rfl⟩⟩; (try first | exact ⟨rfl, _, World.drewN_drewN _ _ _⟩ | exact ⟨rfl, _, Eq.trans (World.drewN_drewN _ _ _) (congrArg (World.drewN _) (Nat.add_assoc _ _ _))⟩)) | (go_at_call 27; (with_reducible refine (impl_in.calls a0_2 0 63 true _ A6.out).mono ?_); rintro e w' ⟨rfl, ⟨nd, rfl⟩⟩; (try first | exact ⟨rfl, _, World.drewN_drewN _ _ _⟩ | exact ⟨rfl, _, Eq.trans (World.drewN_drewN _ _ _) (congrArg (World.drewN _) (Nat.add_assoc _ _ _))⟩))); try go_wp2_with (first | ((with_reducible refine gate_dst (N := 1) rfl ?_); refine bxe 1 #[.int .i64 a0_0, .int .i64 a0_1, .int .i64 a0_2] 82 ?_; intro br hg bq hbox hb; have bg := hbox; have bs := nge HB hg; have bt := nge HB hg; replace HB := nbs HB hb; clear hb hbox hg; obtain ⟨d1, d2, d3⟩ := c3e bg; obtain ⟨d4, d5, d6⟩ := z3_ bg) | (go_at_call 27; (with_reducible refine (impl_in.calls a0_0 0 6 true _ A2.out).mono ?_); rintro e w' ⟨rfl, ⟨nd, rfl⟩⟩; (try first | exact ⟨rfl, _, World.drewN_drewN _ _ _⟩ | exact ⟨rfl, _, Eq.trans (World.drewN_drewN _ _ _) (congrArg (World.drewN _) (Nat.add_assoc _ _ _))⟩)) | (go_at_call 27; (with_reducible refine (impl_in.calls a0_1 0 63 true _ A4.out).mono ?_); rintro e w' ⟨rfl, ⟨nd, rfl⟩⟩; (try first | exact ⟨rfl, _, World.drewN_drewN _ _ _⟩ | exact ⟨rfl, _, Eq.trans (World.drewN_drewN _ _ _) (congrArg (World.drewN _) (Nat.add_assoc _ _ _))⟩)) | (go_at_call 27; (with_reducible refine (impl_in.calls a0_2 0 63 true _ A6.out).mono ?_); rintro e w' ⟨rfl, ⟨nd, rfl⟩⟩; (try first | exact ⟨rfl, _, World.drewN_drewN _ _ _⟩ | exact ⟨rfl, _, Eq.trans (World.drewN_drewN _ _ _) (congrArg (World.drewN _) (Nat.add_assoc _ _ _))⟩))))
     go_ret3
     exact ⟨by first | rfl | (simp [errW_none, errW_some] <;> rfl) | (simp only [← bC, ← bE, ← bV]; first | rfl | (simp [errW_none, errW_some] <;> rfl)) | (simp [*, errW_none, errW_some] <;> rfl), nbe HB⟩
    ·rw [if_neg c8] at H
     exact absurd H (by simp)
   ·replace c7 := Bool.eq_false_iff.mpr c7
    subst c7; have H1 : (some (0, 0, false)) = some (r1, r2, r3) := by rw [if_neg (show ¬ (false = true) by decide)] at H; exact H
    clear H; have H := H1; clear H1; simp only [Option.some.injEq, Prod.mk.injEq] at H; obtain ⟨rfl, rfl, rfl⟩ := H
    go_enter Try.func74, Try.ntmps74
    go_wp2_with (first | ((with_reducible refine gate_dst (N := 1) rfl ?_); refine bxe 1 #[.int .i64 a0_0, .int .i64 a0_1, .int .i64 a0_2] 82 ?_; intro br hg eh hbox hb; have bg := hbox; have bs := nge HB hg; have bt := nge HB hg; replace HB := nbs HB hb; clear hb hbox hg; obtain ⟨dK, dL, dM⟩ := c3e bg; obtain ⟨dN, dO, dP⟩ := z3_ bg) | (go_at_call 27; (with_reducible refine (impl_in.calls a0_0 0 6 true _ A2.out).mono ?_); rintro e w' ⟨rfl, ⟨nd, rfl⟩⟩; (try first | exact ⟨rfl, _, World.drewN_drewN _ _ _⟩ | exact ⟨rfl, _, Eq.trans (World.drewN_drewN _ _ _) (congrArg (World.drewN _) (Nat.add_assoc _ _ _))⟩)) | (go_at_call 27; (with_reducible refine (impl_in.calls a0_1 0 63 true _ A4.out).mono ?_); rintro e w' ⟨rfl, ⟨nd, rfl⟩⟩; (try first | exact ⟨rfl, _, World.drewN_drewN _ _ _⟩ | exact ⟨rfl, _, Eq.trans (World.drewN_drewN _ _ _) (congrArg (World.drewN _) (Nat.add_assoc _ _ _))⟩)) | (go_at_call 27; (with_reducible refine (impl_in.calls a0_2 0 63 false _ A6.out).mono ?_); rintro e w' ⟨rfl, ⟨nd, rfl⟩⟩; (try first | exact ⟨rfl, _, World.drewN_drewN _ _ _⟩ | exact ⟨rfl, _, Eq.trans (World.drewN_drewN _ _ _) (congrArg (World.drewN _) (Nat.add_assoc _ _ _))⟩)))
    repeat (go_quiet (first | ((with_reducible refine gate_dst (N := 1) rfl ?_); refine bxe 1 #[.int .i64 a0_0, .int .i64 a0_1, .int .i64 a0_2] 82 ?_; intro br hg eh hbox hb; have bg := hbox; have bs := nge HB hg; have bt := nge HB hg; replace HB := nbs HB hb; clear hb hbox hg; obtain ⟨dK, dL, dM⟩ := c3e bg; obtain ⟨dN, dO, dP⟩ := z3_ bg) | (go_at_call 27; (with_reducible refine (impl_in.calls a0_0 0 6 true _ A2.out).mono ?_); rintro e w' ⟨rfl, ⟨nd, rfl⟩⟩; (try first | exact ⟨rfl, _, World.drewN_drewN _ _ _⟩ | exact ⟨rfl, _, Eq.trans (World.drewN_drewN _ _ _) (congrArg (World.drewN _) (Nat.add_assoc _ _ _))⟩)) | (go_at_call 27; (with_reducible refine (impl_in.calls a0_1 0 63 true _ A4.out).mono ?_); rintro e w' ⟨rfl, ⟨nd, rfl⟩⟩; (try first | exact ⟨rfl, _, World.drewN_drewN _ _ _⟩ | exact ⟨rfl, _, Eq.trans (World.drewN_drewN _ _ _) (congrArg (World.drewN _) (Nat.add_assoc _ _ _))⟩)) | (go_at_call 27; (with_reducible refine (impl_in.calls a0_2 0 63 false _ A6.out).mono ?_); rintro e w' ⟨rfl, ⟨nd, rfl⟩⟩; (try first | exact ⟨rfl, _, World.drewN_drewN _ _ _⟩ | exact ⟨rfl, _, Eq.trans (World.drewN_drewN _ _ _) (congrArg (World.drewN _) (Nat.add_assoc _ _ _))⟩))); try go_wp2_with (first | ((with_reducible refine gate_dst (N := 1) rfl ?_); refine bxe 1 #[.int .i64 a0_0, .int .i64 a0_1, .int .i64 a0_2] 82 ?_; intro br hg eh hbox hb; have bg := hbox; have bs := nge HB hg; have bt := nge HB hg; replace HB := nbs HB hb; clear hb hbox hg; obtain ⟨dK, dL, dM⟩ := c3e bg; obtain ⟨dN, dO, dP⟩ := z3_ bg) | (go_at_call 27; (with_reducible refine (impl_in.calls a0_0 0 6 true _ A2.out).mono ?_); rintro e w' ⟨rfl, ⟨nd, rfl⟩⟩; (try first | exact ⟨rfl, _, World.drewN_drewN _ _ _⟩ | exact ⟨rfl, _, Eq.trans (World.drewN_drewN _ _ _) (congrArg (World.drewN _) (Nat.add_assoc _ _ _))⟩)) | (go_at_call 27; (with_reducible refine (impl_in.calls a0_1 0 63 true _ A4.out).mono ?_); rintro e w' ⟨rfl, ⟨nd, rfl⟩⟩; (try first | exact ⟨rfl, _, World.drewN_drewN _ _ _⟩ | exact ⟨rfl, _, Eq.trans (World.drewN_drewN _ _ _) (congrArg (World.drewN _) (Nat.add_assoc _ _ _))⟩)) | (go_at_call 27; (with_reducible refine (impl_in.calls a0_2 0 63 false _ A6.out).mono ?_); rintro e w' ⟨rfl, ⟨nd, rfl⟩⟩; (try first | exact ⟨rfl, _, World.drewN_drewN _ _ _⟩ | exact ⟨rfl, _, Eq.trans (World.drewN_drewN _ _ _) (congrArg (World.drewN _) (Nat.add_assoc _ _ _))⟩))))
    go_ret3
    exact ⟨er_, nbe HB⟩
  ·replace c5 := Bool.eq_false_iff.mpr c5
   subst c5; have H1 : (some (0, 0, false)) = some (r1, r2, r3) := by rw [if_neg (show ¬ (false = true) by decide)] at H; exact H
   clear H; have H := H1; clear H1; simp only [Option.some.injEq, Prod.mk.injEq] at H; obtain ⟨rfl, rfl, rfl⟩ := H
   go_enter Try.func74, Try.ntmps74
   go_wp2_with (first | ((with_reducible refine gate_dst (N := 1) rfl ?_); refine bxe 1 #[.int .i64 a0_0, .int .i64 a0_1, .int .i64 a0_2] 82 ?_; intro br hg ei hbox hb; have bg := hbox; have bs := nge HB hg; have bt := nge HB hg; replace HB := nbs HB hb; clear hb hbox hg; obtain ⟨dQ, dR, ej⟩ := c3e bg; obtain ⟨dS, dT, ek⟩ := z3_ bg) | (go_at_call 27; (with_reducible refine (impl_in.calls a0_0 0 6 true _ A2.out).mono ?_); rintro e w' ⟨rfl, ⟨nd, rfl⟩⟩; (try first | exact ⟨rfl, _, World.drewN_drewN _ _ _⟩ | exact ⟨rfl, _, Eq.trans (World.drewN_drewN _ _ _) (congrArg (World.drewN _) (Nat.add_assoc _ _ _))⟩)) | (go_at_call 27; (with_reducible refine (impl_in.calls a0_1 0 63 false _ A4.out).mono ?_); rintro e w' ⟨rfl, ⟨nd, rfl⟩⟩; (try first | exact ⟨rfl, _, World.drewN_drewN _ _ _⟩ | exact ⟨rfl, _, Eq.trans (World.drewN_drewN _ _ _) (congrArg (World.drewN _) (Nat.add_assoc _ _ _))⟩)))
   repeat (go_quiet (first | ((with_reducible refine gate_dst (N := 1) rfl ?_); refine bxe 1 #[.int .i64 a0_0, .int .i64 a0_1, .int .i64 a0_2] 82 ?_; intro br hg ei hbox hb; have bg := hbox; have bs := nge HB hg; have bt := nge HB hg; replace HB := nbs HB hb; clear hb hbox hg; obtain ⟨dQ, dR, ej⟩ := c3e bg; obtain ⟨dS, dT, ek⟩ := z3_ bg) | (go_at_call 27; (with_reducible refine (impl_in.calls a0_0 0 6 true _ A2.out).mono ?_); rintro e w' ⟨rfl, ⟨nd, rfl⟩⟩; (try first | exact ⟨rfl, _, World.drewN_drewN _ _ _⟩ | exact ⟨rfl, _, Eq.trans (World.drewN_drewN _ _ _) (congrArg (World.drewN _) (Nat.add_assoc _ _ _))⟩)) | (go_at_call 27; (with_reducible refine (impl_in.calls a0_1 0 63 false _ A4.out).mono ?_); rintro e w' ⟨rfl, ⟨nd, rfl⟩⟩; (try first | exact ⟨rfl, _, World.drewN_drewN _ _ _⟩ | exact ⟨rfl, _, Eq.trans (World.drewN_drewN _ _ _) (congrArg (World.drewN _) (Nat.add_assoc _ _ _))⟩))); try go_wp2_with (first | ((with_reducible refine gate_dst (N := 1) rfl ?_); refine bxe 1 #[.int .i64 a0_0, .int .i64 a0_1, .int .i64 a0_2] 82 ?_; intro br hg ei hbox hb; have bg := hbox; have bs := nge HB hg; have bt := nge HB hg; replace HB := nbs HB hb; clear hb hbox hg; obtain ⟨dQ, dR, ej⟩ := c3e bg; obtain ⟨dS, dT, ek⟩ := z3_ bg) | (go_at_call 27; (with_reducible refine (impl_in.calls a0_0 0 6 true _ A2.out).mono ?_); rintro e w' ⟨rfl, ⟨nd, rfl⟩⟩; (try first | exact ⟨rfl, _, World.drewN_drewN _ _ _⟩ | exact ⟨rfl, _, Eq.trans (World.drewN_drewN _ _ _) (congrArg (World.drewN _) (Nat.add_assoc _ _ _))⟩)) | (go_at_call 27; (with_reducible refine (impl_in.calls a0_1 0 63 false _ A4.out).mono ?_); rintro e w' ⟨rfl, ⟨nd, rfl⟩⟩; (try first | exact ⟨rfl, _, World.drewN_drewN _ _ _⟩ | exact ⟨rfl, _, Eq.trans (World.drewN_drewN _ _ _) (congrArg (World.drewN _) (Nat.add_assoc _ _ _))⟩))))
   go_ret3
   exact ⟨er_, nbe HB⟩
 ·replace c3 := Bool.eq_false_iff.mpr c3
  subst c3; have H1 : (some (0, 0, false)) = some (r1, r2, r3) := by rw [if_neg (show ¬ (false = true) by decide)] at H; exact H
  clear H; have H := H1; clear H1; simp only [Option.some.injEq, Prod.mk.injEq] at H; obtain ⟨rfl, rfl, rfl⟩ := H
  go_enter Try.func74, Try.ntmps74
  go_wp2_with (first | ((with_reducible refine gate_dst (N := 1) rfl ?_); refine bxe 1 #[.int .i64 a0_0, .int .i64 a0_1, .int .i64 a0_2] 82 ?_; intro br hg el hbox hb; have bg := hbox; have bs := nge HB hg; have bt := nge HB hg; replace HB := nbs HB hb; clear hb hbox hg; obtain ⟨dU, dV, dW⟩ := c3e bg; obtain ⟨dX, dY, dZ⟩ := z3_ bg) | (go_at_call 27; (with_reducible refine (impl_in.calls a0_0 0 6 false _ A2.out).mono ?_); rintro e w' ⟨rfl, ⟨nd, rfl⟩⟩; (try first | exact ⟨rfl, _, World.drewN_drewN _ _ _⟩ | exact ⟨rfl, _, Eq.trans (World.drewN_drewN _ _ _) (congrArg (World.drewN _) (Nat.add_assoc _ _ _))⟩)))
  repeat (go_quiet (first | ((with_reducible refine gate_dst (N := 1) rfl ?_); refine bxe 1 #[.int .i64 a0_0, .int .i64 a0_1, .int .i64 a0_2] 82 ?_; intro br hg el hbox hb; have bg := hbox; have bs := nge HB hg; have bt := nge HB hg; replace HB := nbs HB hb; clear hb hbox hg; obtain ⟨dU, dV, dW⟩ := c3e bg; obtain ⟨dX, dY, dZ⟩ := z3_ bg) | (go_at_call 27; (with_reducible refine (impl_in.calls a0_0 0 6 false _ A2.out).mono ?_); rintro e w' ⟨rfl, ⟨nd, rfl⟩⟩; (try first | exact ⟨rfl, _, World.drewN_drewN _ _ _⟩ | exact ⟨rfl, _, Eq.trans (World.drewN_drewN _ _ _) (congrArg (World.drewN _) (Nat.add_assoc _ _ _))⟩))); try go_wp2_with (first | ((with_reducible refine gate_dst (N := 1) rfl ?_); refine bxe 1 #[.int .i64 a0_0, .int .i64 a0_1, .int .i64 a0_2] 82 ?_; intro br hg el hbox hb; have bg := hbox; have bs := nge HB hg; have bt := nge HB hg; replace HB := nbs HB hb; clear hb hbox hg; obtain ⟨dU, dV, dW⟩ := c3e bg; obtain ⟨dX, dY, dZ⟩ := z3_ bg) | (go_at_call 27; (with_reducible refine (impl_in.calls a0_0 0 6 false _ A2.out).mono ?_); rintro e w' ⟨rfl, ⟨nd, rfl⟩⟩; (try first | exact ⟨rfl, _, World.drewN_drewN _ _ _⟩ | exact ⟨rfl, _, Eq.trans (World.drewN_drewN _ _ _) (congrArg (World.drewN _) (Nat.add_assoc _ _ _))⟩))))
  go_ret3
  exact ⟨er_, nbe HB⟩

/-! ### impl_Wide: function 68 -/
def impl_Wide.f (k : Nat) (a0 : Int) (a1 : Int) : Option (Int × Int) := (impl_BoundsOk.f a0 a1).bind fun b7 => (if b7 = true then ((impl_Pack.f k a0 a1).bind fun bj => (if bj.2.2.2 = true then ((impl_Unpack.f bj.1 bj.2.1 bj.2.2.1).bind fun bl => (some (bl.1, bl.2.1))) else (some (0, 4096)))) else (some (0, 0)))
theorem impl_Wide.mono : ∀ a0 a1 k, LeO (impl_Wide.f k a0 a1) (impl_Wide.f (k + 1) a0 a1) := by
 intro a0 a1 k
 unfold impl_Wide.f
 repeat' first
   | (with_reducible exact impl_Pack.mono _ _ _)
   | (with_reducible exact LeO.refl _)
   | (with_reducible exact LeO.none _)
   | (with_reducible refine LeO.ite ?_ ?_)
   | (with_reducible refine LeO.bind ?_ (fun _ => ?_))
   | exact impl_Pack.mono _ _ _
   | exact LeO.none _
   | refine LeO.ite ?_ ?_
   | refine LeO.bind ?_ (fun _ => ?_)
set_option maxHeartbeats 8000000 in
set_option maxRecDepth 100000 in
theorem impl_Wide.calls (k : Nat) (a0 : Int) (a1 : Int) (r1 : Int) (r2 : Int) (w : World) (h : impl_Wide.f k a0 a1 = some (r1, r2)) :
  Calls Try.prog 68 #[.int .i64 a0, .int .i64 a1] w fun e w' => e = .returned (.tuple #[.int .i64 r1, .int .i64 r2]) ∧ Below w.heap.size w w' := by
 have hu82 := Try.underlying82; have HB := Aside0.mk (Below.refl w.heap.size w); have H : ((impl_BoundsOk.f a0 a1).bind fun b7 => (if b7 = true then ((impl_Pack.f k a0 a1).bind fun bj => (if bj.2.2.2 = true then ((impl_Unpack.f bj.1 bj.2.1 bj.2.2.1).bind fun bl => (some (bl.1, bl.2.1))) else (some (0, 4096)))) else (some (0, 0)))) = some (r1, r2) := h; clear h; replace H := Option.bind_eq_some_iff.mp H; obtain ⟨b7, A30, H⟩ := H; replace H : (if b7 = true then ((impl_Pack.f k a0 a1).bind fun bj => (if bj.2.2.2 = true then ((impl_Unpack.f bj.1 bj.2.1 bj.2.2.1).bind fun bl => (some (bl.1, bl.2.1))) else (some (0, 4096)))) else (some (0, 0))) = some (r1, r2) := H; have A3 := Aside0.mk A30; clear A30
 by_cases c4 : b7 = true
 ·subst c4
  have H1 : ((impl_Pack.f k a0 a1).bind fun bj => (if bj.2.2.2 = true then ((impl_Unpack.f bj.1 bj.2.1 bj.2.2.1).bind fun bl => (some (bl.1, bl.2.1))) else (some (0, 4096)))) = some (r1, r2) := by rw [if_pos rfl] at H; exact H
  clear H; have H := H1; clear H1; replace H := Option.bind_eq_some_iff.mp H; obtain ⟨⟨bW, bX, bY, em⟩, A50, H⟩ := H; replace H : (if em = true then ((impl_Unpack.f bW bX bY).bind fun bl => (some (bl.1, bl.2.1))) else (some (0, 4096))) = some (r1, r2) := H; have A5 := Aside0.mk A50; clear A50
  by_cases c6 : em = true
  ·subst c6
   have H1 : ((impl_Unpack.f bW bX bY).bind fun bl => (some (bl.1, bl.2.1))) = some (r1, r2) := by rw [if_pos rfl] at H; exact H
   clear H; have H := H1; clear H1; replace H := Option.bind_eq_some_iff.mp H; obtain ⟨⟨en, eo, eS⟩, A70, H⟩ := H; replace H : (some (en, eo)) = some (r1, r2) := H; have A7 := Aside0.mk A70; clear A70; simp only [Option.some.injEq, Prod.mk.injEq] at H; obtain ⟨rfl, rfl⟩ := H
   go_enter Try.func68, Try.ntmps68
   go_wp2_with (first | ((with_reducible refine gate_callee (f := 69) rfl ?_); refine goesM (some 13) rfl rfl Try.func69 (by kernel_rfl) rfl #[.int .i64 a0, .int .i64 a1] rfl ?_; (with_reducible refine (impl_BoundsOk.calls a0 a1 true _ A3.out).mono ?_); rintro e w' ⟨rfl, ⟨nd, rfl⟩⟩; refine ⟨_, rfl, ?_⟩) | ((with_reducible refine gate_callee (f := 73) rfl ?_); refine goesM (some 18) rfl rfl Try.func73 (by kernel_rfl) rfl #[.int .i64 a0, .int .i64 a1] rfl ?_; (with_reducible refine (impl_Pack.calls k a0 a1 bW bX bY true _ A5.out).mono ?_); rintro e w8 ⟨rfl, hb⟩; refine ⟨_, rfl, ?_⟩; replace HB := nbs HB hb; (try clear hb)) | ((with_reducible refine gate_dst (N := 6) rfl ?_); refine bxe 6 #[.int .i64 0, .int .i64 0, .int .i64 0] 82 ?_; intro ep hg w9 hbox hb; have bZ := hbox; have eT := nge HB hg; have eU := nge HB hg; replace HB := nbs HB hb; clear hb hbox hg; obtain ⟨jT, jU, jV⟩ := c3e bZ; obtain ⟨jW, jX, jY⟩ := z3_ bZ) | ((with_reducible refine gate_callee (f := 74) rfl ?_); refine goesM (some 25) rfl rfl Try.func74 (by kernel_rfl) rfl #[.agg #[.int .i64 bW, .int .i64 bX, .int .i64 bY]] rfl ?_; (with_reducible refine (impl_Unpack.calls bW bX bY en eo eS _ A7.out).mono ?_); rintro e eI ⟨rfl, hb⟩; refine ⟨_, rfl, ?_⟩; replace bZ := Aside0.mk (blk_below (g := ep) (o := .cells #[.int .i64 bW, .int .i64 bX, .int .i64 bY] 82 (0, 0)) (q3 bZ) hb); replace HB := nbs HB hb; (try clear hb)))
   go_ret2
   exact ⟨er_, nbe HB⟩
  ·replace c6 := Bool.eq_false_iff.mpr c6
   subst c6; have H1 : (some (0, 4096)) = some (r1, r2) := by rw [if_neg (show ¬ (false = true) by decide)] at H; exact H
   clear H; have H := H1; clear H1; simp only [Option.some.injEq, Prod.mk.injEq] at H; obtain ⟨rfl, rfl⟩ := H
   go_enter Try.func68, Try.ntmps68
   go_wp2_with (first | ((with_reducible refine gate_callee (f := 69) rfl ?_); refine goesM (some 13) rfl rfl Try.func69 (by kernel_rfl) rfl #[.int .i64 a0, .int .i64 a1] rfl ?_; (with_reducible refine (impl_BoundsOk.calls a0 a1 true _ A3.out).mono ?_); rintro e w' ⟨rfl, ⟨nd, rfl⟩⟩; refine ⟨_, rfl, ?_⟩) | ((with_reducible refine gate_callee (f := 73) rfl ?_); refine goesM (some 18) rfl rfl Try.func73 (by kernel_rfl) rfl #[.int .i64 a0, .int .i64 a1] rfl ?_; (with_reducible refine (impl_Pack.calls k a0 a1 bW bX bY false _ A5.out).mono ?_); rintro e eJ ⟨rfl, hb⟩; refine ⟨_, rfl, ?_⟩; replace HB := nbs HB hb; (try clear hb)) | ((with_reducible refine gate_dst (N := 6) rfl ?_); refine bxe 6 #[.int .i64 0, .int .i64 0, .int .i64 0] 82 ?_; intro ep hg bq hbox hb; have bZ := hbox; have eT := nge HB hg; have eU := nge HB hg; replace HB := nbs HB hb; clear hb hbox hg; obtain ⟨d1, d2, d3⟩ := c3e bZ; obtain ⟨d4, d5, d6⟩ := z3_ bZ))
   go_ret2
   exact ⟨er_, nbe HB⟩
 ·replace c4 := Bool.eq_false_iff.mpr c4
  subst c4; have H1 : (some (0, 0)) = some (r1, r2) := by rw [if_neg (show ¬ (false = true) by decide)] at H; exact H
  clear H; have H := H1; clear H1; simp only [Option.some.injEq, Prod.mk.injEq] at H; obtain ⟨rfl, rfl⟩ := H
  go_enter Try.func68, Try.ntmps68
  go_wp2_with (first | ((with_reducible refine gate_callee (f := 69) rfl ?_); refine goesM (some 13) rfl rfl Try.func69 (by kernel_rfl) rfl #[.int .i64 a0, .int .i64 a1] rfl ?_; (with_reducible refine (impl_BoundsOk.calls a0 a1 false _ A3.out).mono ?_); rintro e w' ⟨rfl, ⟨nd, rfl⟩⟩; refine ⟨_, rfl, ?_⟩))
  go_ret2
  exact ⟨er_, nbe HB⟩

/-! ### impl_Exact: function 59 -/
def impl_Exact.f (k : Nat) (a0 : Int) (a1 : Int) : Option (Bool) := (impl_Wide.f k a0 a1).bind fun db => ((impl_BoundsOk.f a0 a1).bind fun bF => (if bF = true then (if db.1 = a0 then (some (db.2 == a1)) else (some false)) else (some false)))
theorem impl_Exact.mono : ∀ a0 a1 k, LeO (impl_Exact.f k a0 a1) (impl_Exact.f (k + 1) a0 a1) := by
 intro a0 a1 k
 unfold impl_Exact.f
 repeat' first
   | (with_reducible exact impl_Wide.mono _ _ _)
   | (with_reducible exact LeO.refl _)
   | (with_reducible exact LeO.none _)
   | (with_reducible refine LeO.ite ?_ ?_)
   | (with_reducible refine LeO.bind ?_ (fun _ => ?_))
   | exact impl_Wide.mono _ _ _
   | exact LeO.none _
   | refine LeO.ite ?_ ?_
   | refine LeO.bind ?_ (fun _ => ?_)
set_option maxHeartbeats 8000000 in
set_option maxRecDepth 100000 in
theorem impl_Exact.calls (k : Nat) (a0 : Int) (a1 : Int) (r : Bool) (w : World) (h : impl_Exact.f k a0 a1 = some r) :
  Calls Try.prog 59 #[.int .i64 a0, .int .i64 a1] w fun e w' => e = .returned (.bool r) ∧ Below w.heap.size w w' := by
 have HB := Aside0.mk (Below.refl w.heap.size w); have H : ((impl_Wide.f k a0 a1).bind fun db => ((impl_BoundsOk.f a0 a1).bind fun bF => (if bF = true then (if db.1 = a0 then (some (db.2 == a1)) else (some false)) else (some false)))) = some r := h; clear h; replace H := Option.bind_eq_some_iff.mp H; obtain ⟨⟨bu, b8⟩, A30, H⟩ := H; replace H : ((impl_BoundsOk.f a0 a1).bind fun bF => (if bF = true then (if bu = a0 then (some (b8 == a1)) else (some false)) else (some false))) = some r := H; have A3 := Aside0.mk A30; clear A30; replace H := Option.bind_eq_some_iff.mp H; obtain ⟨bF, A40, H⟩ := H; replace H : (if bF = true then (if bu = a0 then (some (b8 == a1)) else (some false)) else (some false)) = some r := H; have A4 := Aside0.mk A40; clear A40
 by_cases c5 : bF = true
 ·subst c5
  have H1 : (if bu = a0 then (some (b8 == a1)) else (some false)) = some r := by rw [if_pos rfl] at H; exact H
  clear H; have H := H1; clear H1
  by_cases c6 : bu = a0
  ·rw [if_pos c6] at H
   have c6b0 : (bu == a0) = true := beq_iff_eq.mpr c6; have c6b1 : (bu != a0) = false := bne_eq_false_iff_eq.mpr c6; clear c6; obtain rfl := Option.some.inj H
   go_enter Try.func59, Try.ntmps59
   go_wp2_with (first | ((with_reducible refine gate_callee (f := 68) rfl ?_); refine goesM (some 10) rfl rfl Try.func68 (by kernel_rfl) rfl #[.int .i64 a0, .int .i64 a1] rfl ?_; (with_reducible refine (impl_Wide.calls k a0 a1 bu b8 _ A3.out).mono ?_); rintro e w7 ⟨rfl, hb⟩; refine ⟨_, rfl, ?_⟩; replace HB := nbs HB hb; (try clear hb)) | ((with_reducible refine gate_callee (f := 69) rfl ?_); refine goesM (some 15) rfl rfl Try.func69 (by kernel_rfl) rfl #[.int .i64 a0, .int .i64 a1] rfl ?_; (with_reducible refine (impl_BoundsOk.calls a0 a1 true _ A4.out).mono ?_); rintro e w' ⟨rfl, ⟨nd, rfl⟩⟩; refine ⟨_, rfl, ?_⟩))
   go_ret
   exact ⟨er_, nbe HB⟩
  ·rw [if_neg c6] at H
   have c6b0 : (bu == a0) = false := beq_eq_false_iff_ne.mpr c6; have c6b1 : (bu != a0) = true := bne_iff_ne.mpr c6; obtain rfl := Option.some.inj H
   go_enter Try.func59, Try.ntmps59
   go_wp2_with (first | ((with_reducible refine gate_callee (f := 68) rfl ?_); refine goesM (some 10) rfl rfl Try.func68 (by kernel_rfl) rfl #[.int .i64 a0, .int .i64 a1] rfl ?_; (with_reducible refine (impl_Wide.calls k a0 a1 bu b8 _ A3.out).mono ?_); rintro e w8 ⟨rfl, hb⟩; refine ⟨_, rfl, ?_⟩; replace HB := nbs HB hb; (try clear hb)) | ((with_reducible refine gate_callee (f := 69) rfl ?_); refine goesM (some 15) rfl rfl Try.func69 (by kernel_rfl) rfl #[.int .i64 a0, .int .i64 a1] rfl ?_; (with_reducible refine (impl_BoundsOk.calls a0 a1 true _ A4.out).mono ?_); rintro e w' ⟨rfl, ⟨nd, rfl⟩⟩; refine ⟨_, rfl, ?_⟩))
   go_ret
   exact ⟨er_, nbe HB⟩
 ·replace c5 := Bool.eq_false_iff.mpr c5
  subst c5; have H1 : (some false) = some r := by rw [if_neg (show ¬ (false = true) by decide)] at H; exact H
  clear H; have H := H1; clear H1; obtain rfl := Option.some.inj H
  go_enter Try.func59, Try.ntmps59
  go_wp2_with (first | ((with_reducible refine gate_callee (f := 68) rfl ?_); refine goesM (some 10) rfl rfl Try.func68 (by kernel_rfl) rfl #[.int .i64 a0, .int .i64 a1] rfl ?_; (with_reducible refine (impl_Wide.calls k a0 a1 bu b8 _ A3.out).mono ?_); rintro e w9 ⟨rfl, hb⟩; refine ⟨_, rfl, ?_⟩; replace HB := nbs HB hb; (try clear hb)) | ((with_reducible refine gate_callee (f := 69) rfl ?_); refine goesM (some 15) rfl rfl Try.func69 (by kernel_rfl) rfl #[.int .i64 a0, .int .i64 a1] rfl ?_; (with_reducible refine (impl_BoundsOk.calls a0 a1 false _ A4.out).mono ?_); rintro e w' ⟨rfl, ⟨nd, rfl⟩⟩; refine ⟨_, rfl, ?_⟩))
  go_ret
  exact ⟨er_, nbe HB⟩

end Go.Proofs.Ytednioabjiabiaa.PFnMemory
