-- Written by a program of this session (wip/patch.py turns a copy of the kit's print): the functions that the law reaches, and their walks.
import Derived.Test.YtdbffjaolbkedaaDoorShelf
import Derived.Lib.SmallJoins
import Derived.Lib.LaidTab
import Derived.Lib.ItoaNum
import Derived.Test.YtdbffjaolbkedaaDoorPFnExactInsReadx0
import Derived.Test.YtdbffjaolbkedaaDoorPFnExactInsReadx1
import Derived.Test.YtdbffjaolbkedaaDoorPFnExactInsReadx2
import Derived.Test.YtdbffjaolbkedaaDoorCFnExactInsRead
namespace Go.Proofs.YtdbffjaolbkedaaDoor.PFnExactInsRead
open Go.RowKit Go.Proofs.YtdbffjaolbkedaaDoorW.PrintWords Go.Proofs.YtdbffjaolbkedaaDoorW.PrintLast Go.Proofs.YtdbffjaolbkedaaDoorW.PrintMore Go.Proofs.YtdbffjaolbkedaaDoorW.Mine
attribute [local go_sem] max2_int min2_int max_two min_two max_three min_three max_four min_four   -- for this text's walks alone
set_option linter.unusedVariables false
set_option linter.unusedSimpArgs false

/-! ### spec_InsRead: function 5 -/
mutual
def spec_InsRead.l0 : Nat → ByteArray → List ByteArray → List ByteArray → Int → Int → Int → Int → Int → Int → Option (Int × Int × Int × Int × Int × Bool)
  | 0, _, _, _, _, _, _, _, _, _ => none
  | k + 1, x0, x4, x5, x7, bG, bT, bU, bV, bW => if x7 < (x5.length : Int) then (if 0 ≤ x7 then (if 0 < (x4.length : Int) then (if (rdOf ByteArray.empty x5 x7).toList = (rdOf ByteArray.empty x4 0).toList then (spec_InsRead.l0 k x0 x4 x5 (wrap64 (x7 + 1)) x7 bT bU bV bW) else (spec_InsRead.l0 k x0 x4 x5 (wrap64 (x7 + 1)) bG bT bU bV bW)) else (none)) else (none)) else ((spec_l6Has.f bG).bind fun bx => (spec_InsRead.l1 k x0 x4 bx (([0, 0, 0, 0] : List Int)) 1 0 bG bT bU bV bW))
def spec_InsRead.l1 : Nat → ByteArray → List ByteArray → Int → List Int → Int → Int → Int → Int → Int → Int → Int → Option (Int × Int × Int × Int × Int × Bool)
  | 0, _, _, _, _, _, _, _, _, _, _, _ => none
  | k + 1, x0, x4, x8, x9, bX, bI, bG, bT, bU, bV, bW => if bI < 4 then (if 0 ≤ bI then (if (Go.bits .and .i64 (shr .i64 x8 bI) 1) = 0 then (spec_InsRead.l1 k x0 x4 x8 x9 bX (wrap64 (bI + 1)) bG bT bU bV bW) else (if bX < (x4.length : Int) then (if 0 ≤ bX then ((spec_l7Num.f k (rdOf ByteArray.empty x4 bX)).bind fun bt => (if bI < (x9.length : Int) then (spec_InsRead.l1 k x0 x4 x8 (x9.set (bI : Int).toNat bt) (wrap64 (bX + 1)) (wrap64 (bI + 1)) bG bT bU bV bW) else (none))) else (none)) else (spec_InsRead.l1 k x0 x4 x8 x9 bX (wrap64 (bI + 1)) bG bT bU bV bW))) else (none)) else (if 0 < (x9.length : Int) then (if 1 < (x9.length : Int) then (if 2 < (x9.length : Int) then (if 3 < (x9.length : Int) then (if x0.toList = ([] : List UInt8) then (some (0, 0, 0, 0, 0, false)) else ((spec_InsText.f k bG (rd x9 0) (rd x9 1) (rd x9 2) (rd x9 3)).bind fun bz => (if bz.toList = x0.toList then (some (bG, rd x9 0, rd x9 1, rd x9 2, rd x9 3, true)) else (some (0, 0, 0, 0, 0, false))))) else (none)) else (none)) else (none)) else (none))
end
def spec_InsRead.f (k : Nat) (a0 : ByteArray) : Option (Int × Int × Int × Int × Int × Bool) := (spec_l7Words.f k a0).bind fun bi => ((spec_l7Names.f).bind fun bo => (spec_InsRead.l0 k a0 bi bo 1 0 0 0 0 0))
theorem spec_InsRead.mono_l : ∀ k, (∀ y0 y1 y2 y3 y4 y5 y6 y7 y8, LeO (spec_InsRead.l0 k y0 y1 y2 y3 y4 y5 y6 y7 y8) (spec_InsRead.l0 (k + 1) y0 y1 y2 y3 y4 y5 y6 y7 y8)) ∧ (∀ y0 y1 y2 y3 y4 y5 y6 y7 y8 y9 dp, LeO (spec_InsRead.l1 k y0 y1 y2 y3 y4 y5 y6 y7 y8 y9 dp) (spec_InsRead.l1 (k + 1) y0 y1 y2 y3 y4 y5 y6 y7 y8 y9 dp))
  | 0 => ⟨fun _ _ _ _ _ _ _ _ _ r h => by simp [spec_InsRead.l0] at h, fun _ _ _ _ _ _ _ _ _ _ _ r h => by simp [spec_InsRead.l1] at h⟩
  | k + 1 => by
    obtain ⟨ih0, ih1⟩ := spec_InsRead.mono_l k; refine ⟨?_, ?_⟩
    · intro y0 y1 y2 y3 y4 y5 y6 y7 y8
      unfold spec_InsRead.l0
      repeat' first
      | (with_reducible exact ih0 _ _ _ _ _ _ _ _ _)
      | (with_reducible exact ih1 _ _ _ _ _ _ _ _ _ _ _)
      | (with_reducible exact spec_InsText.mono _ _ _ _ _ _)
      | (with_reducible exact spec_l7Num.mono _ _)
      | (with_reducible exact spec_l7Words.mono _ _)
      | (with_reducible exact LeO.refl _)
      | (with_reducible exact LeO.none _)
      | (with_reducible refine LeO.ite ?_ ?_)
      | (with_reducible refine LeO.bind ?_ (fun _ => ?_))
      | exact ih0 _ _ _ _ _ _ _ _ _
      | exact ih1 _ _ _ _ _ _ _ _ _ _ _
      | exact spec_InsText.mono _ _ _ _ _ _
      | exact spec_l7Num.mono _ _
      | exact spec_l7Words.mono _ _
      | exact LeO.none _
      | refine LeO.ite ?_ ?_
      | refine LeO.bind ?_ (fun _ => ?_)
    · intro y0 y1 y2 y3 y4 y5 y6 y7 y8 y9 dp
      unfold spec_InsRead.l1
      repeat' first
      | (with_reducible exact ih0 _ _ _ _ _ _ _ _ _)
      | (with_reducible exact ih1 _ _ _ _ _ _ _ _ _ _ _)
      | (with_reducible exact spec_InsText.mono _ _ _ _ _ _)
      | (with_reducible exact spec_l7Num.mono _ _)
      | (with_reducible exact spec_l7Words.mono _ _)
      | (with_reducible exact LeO.refl _)
      | (with_reducible exact LeO.none _)
      | (with_reducible refine LeO.ite ?_ ?_)
      | (with_reducible refine LeO.bind ?_ (fun _ => ?_))
      | exact ih0 _ _ _ _ _ _ _ _ _
      | exact ih1 _ _ _ _ _ _ _ _ _ _ _
      | exact spec_InsText.mono _ _ _ _ _ _
      | exact spec_l7Num.mono _ _
      | exact spec_l7Words.mono _ _
      | exact LeO.none _
      | refine LeO.ite ?_ ?_
      | refine LeO.bind ?_ (fun _ => ?_)
theorem spec_InsRead.mono : ∀ a0 k, LeO (spec_InsRead.f k a0) (spec_InsRead.f (k + 1) a0) := by
  intro a0 k; obtain ⟨ih0, ih1⟩ := spec_InsRead.mono_l k
  unfold spec_InsRead.f
  repeat' first
      | (with_reducible exact ih0 _ _ _ _ _ _ _ _ _)
      | (with_reducible exact ih1 _ _ _ _ _ _ _ _ _ _ _)
      | (with_reducible exact spec_InsText.mono _ _ _ _ _ _)
      | (with_reducible exact spec_l7Num.mono _ _)
      | (with_reducible exact spec_l7Words.mono _ _)
      | (with_reducible exact LeO.refl _)
      | (with_reducible exact LeO.none _)
      | (with_reducible refine LeO.ite ?_ ?_)
      | (with_reducible refine LeO.bind ?_ (fun _ => ?_))
      | exact ih0 _ _ _ _ _ _ _ _ _
      | exact ih1 _ _ _ _ _ _ _ _ _ _ _
      | exact spec_InsText.mono _ _ _ _ _ _
      | exact spec_l7Num.mono _ _
      | exact spec_l7Words.mono _ _
      | exact LeO.none _
      | refine LeO.ite ?_ ?_
      | refine LeO.bind ?_ (fun _ => ?_)
set_option maxHeartbeats 8000000 in
set_option maxRecDepth 100000 in
theorem spec_InsRead.calls (k : Nat) (a0 : ByteArray) (r1 : Int) (r2 : Int) (r3 : Int) (r4 : Int) (r5 : Int) (r6 : Bool) (w : World) (h : spec_InsRead.f k a0 = some (r1, r2, r3, r4, r5, r6)) :
    Calls Tryd.prog 5 #[.string a0] w fun e w' => e = .returned (.tuple #[.agg #[.int .i64 r1, .int .i64 r2, .int .i64 r3, .int .i64 r4, .int .i64 r5], .bool r6]) ∧ Below w.heap.size w w' := by
  have hu23 := Tryd.underlying23; have HB := Aside0.mk (Below.refl w.heap.size w); have H : ((spec_l7Words.f k a0).bind fun bi => ((spec_l7Names.f).bind fun bo => (spec_InsRead.l0 k a0 bi bo 1 0 0 0 0 0))) = some (r1, r2, r3, r4, r5, r6) := h; clear h; replace H := Option.bind_eq_some_iff.mp H; obtain ⟨bi, A20, H⟩ := H; replace H : ((spec_l7Names.f).bind fun bo => (spec_InsRead.l0 k a0 bi bo 1 0 0 0 0 0)) = some (r1, r2, r3, r4, r5, r6) := H; have A2 := Aside0.mk A20; clear A20; replace H := Option.bind_eq_some_iff.mp H; obtain ⟨bo, A30, H⟩ := H; replace H : (spec_InsRead.l0 k a0 bi bo 1 0 0 0 0 0) = some (r1, r2, r3, r4, r5, r6) := H; have A3 := Aside0.mk A30; clear A30; have H' := Aside0.mk H; clear H
  go_enter Tryd.func5, Tryd.ntmps5
  go_wp2_with (first | ((with_reducible refine gate_dst (N := 2) rfl ?_); (try (refine gate_guard (by rfl) ?_; dsimp only)); refine bxe 2 #[.int .i64 0, .int .i64 0, .int .i64 0, .int .i64 0, .int .i64 0] 23 ?_; intro bE hg w4 hbox hb; have bc := hbox; have dt := nge HB hg; have du := nge HB hg; replace HB := nbs HB hb; clear hb hbox hg) | (go_at_call 13; (with_reducible refine (spec_l7Words.calls k a0 bi _ A2.out).mono ?_); rintro e w5 ⟨b1, rfl, br, hb⟩; have bu := Aside0.mk (Kd.R_lower br (bsz HB)); replace bc := nblk bc hb; replace HB := nbs HB hb; (try clear hb); (try clear br)) | (go_at_call 14; (with_reducible refine (spec_l7Names.calls  bo _ A3.out).mono ?_); rintro e w6 ⟨dc, rfl, br, hb⟩; have bH := Aside0.mk (Kd.R_lower (Kd.R_new' br (Kd.R_lt (nRo bu))) (bsz HB)); replace bu := Aside0.mk (Kd.R_elder' (nRo bu) (Kd.R_base br) hb); replace bc := nblk bc hb; replace HB := nbs HB hb; (try clear hb); (try clear br)) | ((with_reducible refine gate_dst (N := 6) rfl ?_); (try (refine gate_guard (by rfl) ?_; dsimp only)); refine bxe 6 #[.int .i64 0, .int .i64 0, .int .i64 0, .int .i64 0, .int .i64 0] 23 ?_; intro bf hg w7 hbox hb; have bb := hbox; have dv := nge HB hg; have dw := nge HB hg; have bB := nlt bc hg; have bF := ngt bc hg; replace bu := nR bu hb; replace bH := nR bH hb; replace bc := nblk bc hb; replace HB := nbs HB hb; clear hb hbox hg; have dx := bF.out; have dy := bB.out; obtain ⟨dd, de, df, dg, dh⟩ := c5e bb; obtain ⟨di, dj, dk, dl, dm⟩ := z5_ bb))
  repeat (go_quiet (first | ((with_reducible refine gate_dst (N := 2) rfl ?_); (try (refine gate_guard (by rfl) ?_; dsimp only)); refine bxe 2 #[.int .i64 0, .int .i64 0, .int .i64 0, .int .i64 0, .int .i64 0] 23 ?_; intro bE hg w4 hbox hb; have bc := hbox; have dt := nge HB hg; have du := nge HB hg; replace HB := nbs HB hb; clear hb hbox hg) | (go_at_call 13; (with_reducible refine (spec_l7Words.calls k a0 bi _ A2.out).mono ?_); rintro e w5 ⟨b1, rfl, br, hb⟩; have bu := Aside0.mk (Kd.R_lower br (bsz HB)); replace bc := nblk bc hb; replace HB := nbs HB hb; (try clear hb); (try clear br)) | (go_at_call 14; (with_reducible refine (spec_l7Names.calls  bo _ A3.out).mono ?_); rintro e w6 ⟨dc, rfl, br, hb⟩; have bH := Aside0.mk (Kd.R_lower (Kd.R_new' br (Kd.R_lt (nRo bu))) (bsz HB)); replace bu := Aside0.mk (Kd.R_elder' (nRo bu) (Kd.R_base br) hb); replace bc := nblk bc hb; replace HB := nbs HB hb; (try clear hb); (try clear br)) | ((with_reducible refine gate_dst (N := 6) rfl ?_); (try (refine gate_guard (by rfl) ?_; dsimp only)); refine bxe 6 #[.int .i64 0, .int .i64 0, .int .i64 0, .int .i64 0, .int .i64 0] 23 ?_; intro bf hg w7 hbox hb; have bb := hbox; have dv := nge HB hg; have dw := nge HB hg; have bB := nlt bc hg; have bF := ngt bc hg; replace bu := nR bu hb; replace bH := nR bH hb; replace bc := nblk bc hb; replace HB := nbs HB hb; clear hb hbox hg; have dx := bF.out; have dy := bB.out; obtain ⟨dd, de, df, dg, dh⟩ := c5e bb; obtain ⟨di, dj, dk, dl, dm⟩ := z5_ bb)); try go_wp2_with (first | ((with_reducible refine gate_dst (N := 2) rfl ?_); (try (refine gate_guard (by rfl) ?_; dsimp only)); refine bxe 2 #[.int .i64 0, .int .i64 0, .int .i64 0, .int .i64 0, .int .i64 0] 23 ?_; intro bE hg w4 hbox hb; have bc := hbox; have dt := nge HB hg; have du := nge HB hg; replace HB := nbs HB hb; clear hb hbox hg) | (go_at_call 13; (with_reducible refine (spec_l7Words.calls k a0 bi _ A2.out).mono ?_); rintro e w5 ⟨b1, rfl, br, hb⟩; have bu := Aside0.mk (Kd.R_lower br (bsz HB)); replace bc := nblk bc hb; replace HB := nbs HB hb; (try clear hb); (try clear br)) | (go_at_call 14; (with_reducible refine (spec_l7Names.calls  bo _ A3.out).mono ?_); rintro e w6 ⟨dc, rfl, br, hb⟩; have bH := Aside0.mk (Kd.R_lower (Kd.R_new' br (Kd.R_lt (nRo bu))) (bsz HB)); replace bu := Aside0.mk (Kd.R_elder' (nRo bu) (Kd.R_base br) hb); replace bc := nblk bc hb; replace HB := nbs HB hb; (try clear hb); (try clear br)) | ((with_reducible refine gate_dst (N := 6) rfl ?_); (try (refine gate_guard (by rfl) ?_; dsimp only)); refine bxe 6 #[.int .i64 0, .int .i64 0, .int .i64 0, .int .i64 0, .int .i64 0] 23 ?_; intro bf hg w7 hbox hb; have bb := hbox; have dv := nge HB hg; have dw := nge HB hg; have bB := nlt bc hg; have bF := ngt bc hg; replace bu := nR bu hb; replace bH := nR bH hb; replace bc := nblk bc hb; replace HB := nbs HB hb; clear hb hbox hg; have dx := bF.out; have dy := bB.out; obtain ⟨dd, de, df, dg, dh⟩ := c5e bb; obtain ⟨di, dj, dk, dl, dm⟩ := z5_ bb)))
  go_loopg [7] k (fun kq v7 w' => ∃ (bp : Int) (bj : Int), v7 = .int .i64 bp ∧ Aside0 (spec_InsRead.l0 kq a0 bi bo bp bj 0 0 0 0 = some (r1, r2, r3, r4, r5, r6)) ∧ Aside0 (kq ≤ k) ∧ Aside0 (Kd.R Kd.string 9 w' w.heap.size (fun k_ => some k_ ≠ (dc : Value).ownBlock) b1 bi) ∧ Aside0 (Kd.R Kd.string 9 w' w.heap.size (fun k_ => some k_ ≠ (b1 : Value).ownBlock) dc bo) ∧ Aside0 (w'.heap[bE]? = some (.cells #[.int .i64 0, .int .i64 0, .int .i64 0, .int .i64 0, .int .i64 0] 23 (0, 0))) ∧ Aside0 (w'.heap[bf]? = some (.cells #[.int .i64 bj, .int .i64 0, .int .i64 0, .int .i64 0, .int .i64 0] 23 (0, 0))) ∧ Aside0 (Below w.heap.size w w'))
  case atStart => exact ⟨(1), (0), (by first | rfl | (simp; done) | (simp [*]; done)), H', ⟨Nat.le_refl _⟩, ⟨by (with_reducible repeat (first | apply Kd.R_alloc | apply Kd.R_drewN | apply Kd.R_drew)); exact Kd.R_mono (eR5_ (Kd.R_types bu.out bb.out (by decide))) (fun _ hk => hk.1.2)⟩, ⟨by (with_reducible repeat (first | apply Kd.R_alloc | apply Kd.R_drewN | apply Kd.R_drew)); exact Kd.R_mono (eR5_ (Kd.R_types bH.out bb.out (by decide))) (fun _ hk => hk.1.2)⟩, ⟨k5_ bB.out (nb bc)⟩, ⟨q5 bb⟩, ⟨nbe HB⟩⟩
  case round =>
    clear H'; try clear p2
    try clear c5
    try clear c8
    try clear dd
    try clear de
    try clear df
    try clear dg
    try clear dh
    try clear di
    try clear dj
    try clear dk
    try clear dl
    try clear dm
    obtain ⟨bp, bj, rfl, HA, bC, bg, bs, bc, bb, HB⟩ := hrel
    cases gk with
    | zero => exact absurd HA.out (by simp [spec_InsRead.l0])
    | succ k1 =>
      have H := HA.out; clear HA; simp only [spec_InsRead.l0] at H
      by_cases c10 : bp < (bo.length : Int)
      · rw [if_pos c10] at H
        have c10b0 : decide (bp < (bo.length : Int)) = true := decide_eq_true c10; clear c10
        by_cases c11 : 0 ≤ bp
        · rw [if_pos c11] at H
          have c11b0 : decide (0 ≤ bp) = true := decide_eq_true c11; clear c11
          by_cases c12 : 0 < (bi.length : Int)
          · rw [if_pos c12] at H
            have c12b0 : decide (0 < (bi.length : Int)) = true := decide_eq_true c12; have c12b1 : decide (0 < bi.length) = true := decide_eq_true (by omega); clear c12
            by_cases c13 : (rdOf ByteArray.empty bo bp).toList = (rdOf ByteArray.empty bi 0).toList
            · rw [if_pos c13] at H
              have c13b0 : ((rdOf ByteArray.empty bo bp).toList == (rdOf ByteArray.empty bi 0).toList) = true := beq_iff_eq.mpr c13; have c13b1 : ((rdOf ByteArray.empty bo bp).toList != (rdOf ByteArray.empty bi 0).toList) = false := bne_eq_false_iff_eq.mpr c13; clear c13; have H' := Aside0.mk H; clear H; obtain ⟨eT, eU, eg⟩ := Kd.R_slice bs.out; subst eg; have p152 : 0 ≤ (bp : Int) := of_decide_eq_true (by first | (with_reducible assumption) | assumption); have q152 : bp < (bo.length : Int) := of_decide_eq_true (by first | (with_reducible assumption) | assumption); obtain ⟨eh, e152, dz⟩ := Kd.at_string (Kd.R_reads' bs.out).2.2 bp p152 q152
              cases e152
              replace p152 := eq_true p152; replace q152 := eq_true q152; obtain ⟨eV, eW, ei⟩ := Kd.R_slice bg.out; subst ei; have p153 : 0 ≤ (0 : Int) := (by omega); have q153 : 0 < (bi.length : Int) := of_decide_eq_true (by first | (with_reducible assumption) | assumption); obtain ⟨ej, e153, bY⟩ := Kd.at_string (Kd.R_reads' bg.out).2.2 0 p153 q153
              cases e153
              have qi153 : (0 < bi.length) = True := eq_true (by omega); (try rw [show ((0 : Int)).toNat = 0 from rfl] at bY); (try rw [Addr.add_zero'] at bY); replace p153 := eq_true p153; replace q153 := eq_true q153; have eX := bF.out; have eY := bB.out; obtain ⟨ek, el, em, en, eo⟩ := c5e bb; obtain ⟨ep, er, es, et, eu⟩ := z5_ bb; go_wp2
              repeat (go_quiet (fail); try go_wp2)
              go_roundg k1
              case measure => have := bC.out; omega
              case rel => exact ⟨(wrap64 (bp + 1)), (bp), (by first | rfl | (simp; done) | (simp [*]; done)), H', ⟨by have := bC.out; omega⟩, ⟨by (with_reducible repeat (first | apply Kd.R_alloc | apply Kd.R_drewN | apply Kd.R_drew)); exact f1 (Kd.R_types bg.out bb.out (by decide))⟩, ⟨by (with_reducible repeat (first | apply Kd.R_alloc | apply Kd.R_drewN | apply Kd.R_drew)); exact f1 (Kd.R_types bs.out bb.out (by decide))⟩, ⟨k1_ bB.out (nb bc)⟩, ⟨qp bb⟩, ⟨nbe HB⟩⟩
            · rw [if_neg c13] at H
              have c13b0 : ((rdOf ByteArray.empty bo bp).toList == (rdOf ByteArray.empty bi 0).toList) = false := beq_eq_false_iff_ne.mpr c13; have c13b1 : ((rdOf ByteArray.empty bo bp).toList != (rdOf ByteArray.empty bi 0).toList) = true := bne_iff_ne.mpr c13; have H' := Aside0.mk H; clear H; obtain ⟨eZ, e0, ev⟩ := Kd.R_slice bs.out; subst ev; have p152 : 0 ≤ (bp : Int) := of_decide_eq_true (by first | (with_reducible assumption) | assumption); have q152 : bp < (bo.length : Int) := of_decide_eq_true (by first | (with_reducible assumption) | assumption); obtain ⟨eh, e152, dz⟩ := Kd.at_string (Kd.R_reads' bs.out).2.2 bp p152 q152
              cases e152
              replace p152 := eq_true p152; replace q152 := eq_true q152; obtain ⟨e1, e2, ew⟩ := Kd.R_slice bg.out; subst ew; have p153 : 0 ≤ (0 : Int) := (by omega); have q153 : 0 < (bi.length : Int) := of_decide_eq_true (by first | (with_reducible assumption) | assumption); obtain ⟨ej, e153, bY⟩ := Kd.at_string (Kd.R_reads' bg.out).2.2 0 p153 q153
              cases e153
              have qi153 : (0 < bi.length) = True := eq_true (by omega); (try rw [show ((0 : Int)).toNat = 0 from rfl] at bY); (try rw [Addr.add_zero'] at bY); replace p153 := eq_true p153; replace q153 := eq_true q153; go_wp2
              repeat (go_quiet (fail); try go_wp2)
              go_roundg k1
              case measure => have := bC.out; omega
              case rel => exact ⟨(wrap64 (bp + 1)), (bj), (by first | rfl | (simp; done) | (simp [*]; done)), H', ⟨by have := bC.out; omega⟩, ⟨by (with_reducible repeat (first | apply Kd.R_alloc | apply Kd.R_drewN | apply Kd.R_drew)); exact bg.out⟩, ⟨by (with_reducible repeat (first | apply Kd.R_alloc | apply Kd.R_drewN | apply Kd.R_drew)); exact bs.out⟩, ⟨nb bc⟩, ⟨nb bb⟩, ⟨nbe HB⟩⟩
          · rw [if_neg c12] at H
            exact absurd H (by simp)
        · rw [if_neg c11] at H
          exact absurd H (by simp)
      · rw [if_neg c10] at H
        have c10b0 : decide (bp < (bo.length : Int)) = false := decide_eq_false c10; clear c10; replace H := Option.bind_eq_some_iff.mp H; obtain ⟨bx, A200, H⟩ := H; replace H : (spec_InsRead.l1 k1 a0 bi bx (([0, 0, 0, 0] : List Int)) 1 0 bj 0 0 0 0) = some (r1, r2, r3, r4, r5, r6) := H; have A20 := Aside0.mk A200; clear A200; obtain ⟨dA, b2⟩ : ∃ y_ : List Int, y_ = (([0, 0, 0, 0] : List Int)) := ⟨_, rfl⟩; replace H : (spec_InsRead.l1 k1 a0 bi bx dA 1 0 bj 0 0 0 0) = some (r1, r2, r3, r4, r5, r6) := by first | (rw [b2]; with_reducible exact H) | (have H2_ := (Option.bind_some _ _).symm.trans H; rw [b2]; with_reducible exact H2_) | (have H2_ := (Option.bind_some _ _).symm.trans H; with_reducible exact H2_) | with_reducible exact H | (rw [b2]; exact H) | exact H
        have bZ := Aside0.mk b2; clear b2; have H' := Aside0.mk H; clear H; obtain ⟨e3, e4, ex⟩ := Kd.R_slice bs.out; subst ex; have e5 := bF.out; have e6 := bB.out; obtain ⟨ey, ez, eA, eB, eC⟩ := c5e bb; obtain ⟨eD, eE, eF, eG, eH⟩ := z5_ bb
        go_wp2_with (first | (go_at_call 15; (with_reducible refine (spec_l6Has.calls bj bx _ A20.out).mono ?_); rintro e dB ⟨rfl, hb⟩; replace bg := nR bg hb; replace bs := nR bs hb; replace bc := nblk bc hb; replace bb := nblk bb hb; replace HB := nbs HB hb; (try clear hb)) | ((with_reducible refine gate_dst (N := 35) rfl ?_); (try (refine gate_guard (by rfl) ?_; dsimp only)); refine Kd.R_lit (Kd.int .i64) _ 3 ?hg (N := 35) ?hd (xs := ([0, 0, 0, 0] : List Int)) (inner := [.int .i64 0, .int .i64 0, .int .i64 0, .int .i64 0]) (ok := fun _ => True) (okp := fun _ => True) ?hr ?hp (fun _ hk => hk) trivial (Below.refl _ _) (Nat.le_refl _) (by simp) ?_; (case hd => rfl); (case hg => rfl); (case hr => first | (go_simp; done) | (go_simp; rfl)); (case hp => exact (Reps.one (show Kd.M (Kd.int .i64) _ _ _ 0 [.int .i64 0] from rfl) (Reps.one (show Kd.M (Kd.int .i64) _ _ _ 0 [.int .i64 0] from rfl) (Reps.one (show Kd.M (Kd.int .i64) _ _ _ 0 [.int .i64 0] from rfl) (Reps.one (show Kd.M (Kd.int .i64) _ _ _ 0 [.int .i64 0] from rfl) (Reps.none _ _)))))); intro dq dC bv hb hg_ hnew_; clear hg_ hnew_; (first | rw [← bZ.out] at bv | (simp only [Int.reduceToNat] at bv; rw [← bZ.out] at bv)); have dr := Aside0.mk (Kd.R_lower bv (bsz HB)); replace bg := nR bg hb; replace bs := nR bs hb; replace bc := nblk bc hb; replace bb := nblk bb hb; replace HB := nbs HB hb; clear hb bv))
        repeat (go_quiet (first | (go_at_call 15; (with_reducible refine (spec_l6Has.calls bj bx _ A20.out).mono ?_); rintro e dB ⟨rfl, hb⟩; replace bg := nR bg hb; replace bs := nR bs hb; replace bc := nblk bc hb; replace bb := nblk bb hb; replace HB := nbs HB hb; (try clear hb)) | ((with_reducible refine gate_dst (N := 35) rfl ?_); (try (refine gate_guard (by rfl) ?_; dsimp only)); refine Kd.R_lit (Kd.int .i64) _ 3 ?hg (N := 35) ?hd (xs := ([0, 0, 0, 0] : List Int)) (inner := [.int .i64 0, .int .i64 0, .int .i64 0, .int .i64 0]) (ok := fun _ => True) (okp := fun _ => True) ?hr ?hp (fun _ hk => hk) trivial (Below.refl _ _) (Nat.le_refl _) (by simp) ?_; (case hd => rfl); (case hg => rfl); (case hr => first | (go_simp; done) | (go_simp; rfl)); (case hp => exact (Reps.one (show Kd.M (Kd.int .i64) _ _ _ 0 [.int .i64 0] from rfl) (Reps.one (show Kd.M (Kd.int .i64) _ _ _ 0 [.int .i64 0] from rfl) (Reps.one (show Kd.M (Kd.int .i64) _ _ _ 0 [.int .i64 0] from rfl) (Reps.one (show Kd.M (Kd.int .i64) _ _ _ 0 [.int .i64 0] from rfl) (Reps.none _ _)))))); intro dq dC bv hb hg_ hnew_; clear hg_ hnew_; (first | rw [← bZ.out] at bv | (simp only [Int.reduceToNat] at bv; rw [← bZ.out] at bv)); have dr := Aside0.mk (Kd.R_lower bv (bsz HB)); replace bg := nR bg hb; replace bs := nR bs hb; replace bc := nblk bc hb; replace bb := nblk bb hb; replace HB := nbs HB hb; clear hb bv)); try go_wp2_with (first | (go_at_call 15; (with_reducible refine (spec_l6Has.calls bj bx _ A20.out).mono ?_); rintro e dB ⟨rfl, hb⟩; replace bg := nR bg hb; replace bs := nR bs hb; replace bc := nblk bc hb; replace bb := nblk bb hb; replace HB := nbs HB hb; (try clear hb)) | ((with_reducible refine gate_dst (N := 35) rfl ?_); (try (refine gate_guard (by rfl) ?_; dsimp only)); refine Kd.R_lit (Kd.int .i64) _ 3 ?hg (N := 35) ?hd (xs := ([0, 0, 0, 0] : List Int)) (inner := [.int .i64 0, .int .i64 0, .int .i64 0, .int .i64 0]) (ok := fun _ => True) (okp := fun _ => True) ?hr ?hp (fun _ hk => hk) trivial (Below.refl _ _) (Nat.le_refl _) (by simp) ?_; (case hd => rfl); (case hg => rfl); (case hr => first | (go_simp; done) | (go_simp; rfl)); (case hp => exact (Reps.one (show Kd.M (Kd.int .i64) _ _ _ 0 [.int .i64 0] from rfl) (Reps.one (show Kd.M (Kd.int .i64) _ _ _ 0 [.int .i64 0] from rfl) (Reps.one (show Kd.M (Kd.int .i64) _ _ _ 0 [.int .i64 0] from rfl) (Reps.one (show Kd.M (Kd.int .i64) _ _ _ 0 [.int .i64 0] from rfl) (Reps.none _ _)))))); intro dq dC bv hb hg_ hnew_; clear hg_ hnew_; (first | rw [← bZ.out] at bv | (simp only [Int.reduceToNat] at bv; rw [← bZ.out] at bv)); have dr := Aside0.mk (Kd.R_lower bv (bsz HB)); replace bg := nR bg hb; replace bs := nR bs hb; replace bc := nblk bc hb; replace bb := nblk bb hb; replace HB := nbs HB hb; clear hb bv)))
        go_loopg [10, 11] k1 (fun kq eI eJ w' => ∃ (ba : List Int) (bm : Int) (bh : Int), eI = .int .i64 bm ∧ eJ = .int .i64 bh ∧ Aside0 (spec_InsRead.l1 kq a0 bi bx ba bm bh bj 0 0 0 0 = some (r1, r2, r3, r4, r5, r6)) ∧ Aside0 (kq ≤ k1) ∧ Aside0 (Kd.R Kd.string 9 w' w.heap.size (fun _ => True) b1 bi) ∧ Aside0 (Kd.R (Kd.int .i64) 3 w' w.heap.size (fun _ => True) dq ba) ∧ Aside0 (w'.heap[bE]? = some (.cells #[.int .i64 0, .int .i64 0, .int .i64 0, .int .i64 0, .int .i64 0] 23 (0, 0))) ∧ Aside0 (w'.heap[bf]? = some (.cells #[.int .i64 bj, .int .i64 0, .int .i64 0, .int .i64 0, .int .i64 0] 23 (0, 0))) ∧ Aside0 (Below w.heap.size w w'))
        case atStart => exact ⟨(dA), (1), (0), (by first | rfl | (simp; done) | (simp [*]; done)), (by first | rfl | (simp; done) | (simp [*]; done)), H', ⟨Nat.le_refl _⟩, ⟨by (with_reducible repeat (first | apply Kd.R_alloc | apply Kd.R_drewN | apply Kd.R_drew)); exact Kd.R_mono bg.out (fun _ hk => trivial)⟩, ⟨by (with_reducible repeat (first | apply Kd.R_alloc | apply Kd.R_drewN | apply Kd.R_drew)); exact dr.out⟩, ⟨nb bc⟩, ⟨nb bb⟩, ⟨nbe HB⟩⟩
        case round =>
          clear H'; try clear c1
          try clear p1
          try clear q1
          try clear e7
          try clear qi1
          try clear c2
          try clear p2
          try clear c5
          try clear p6
          try clear c8
          try clear c10
          try clear c10b0
          try clear c11
          try clear c11b0
          try clear c12
          try clear c12b0
          try clear c12b1
          try clear c13
          try clear c13b0
          try clear c13b1
          try clear p15
          try clear q15
          try clear e8
          try clear qi15
          try clear c16
          try clear c22
          try clear ek
          try clear el
          try clear em
          try clear en
          try clear eo
          try clear ey
          try clear ez
          try clear eA
          try clear eB
          try clear eC
          try clear dd
          try clear de
          try clear df
          try clear dg
          try clear dh
          try clear ep
          try clear er
          try clear es
          try clear et
          try clear eu
          try clear eD
          try clear eE
          try clear eF
          try clear eG
          try clear eH
          try clear di
          try clear dj
          try clear dk
          try clear dl
          try clear dm
          try clear dz
          try clear bY
          try clear p152
          try clear p153
          try clear p2
          try clear q152
          try clear q153
          obtain ⟨ba, bm, bh, rfl, rfl, HA, b0, bg, bd, bc, bb, HB⟩ := hrel
          cases gk with
          | zero => exact absurd HA.out (by simp [spec_InsRead.l1])
          | succ k2 =>
            have H := HA.out; clear HA; simp only [spec_InsRead.l1] at H
            by_cases c27 : bh < 4
            · rw [if_pos c27] at H
              have c27b0 : decide (bh < 4) = true := decide_eq_true c27; clear c27
              by_cases c28 : 0 ≤ bh
              · rw [if_pos c28] at H
                have c28b0 := eq_true c28; have c28b1 : decide (0 ≤ bh) = true := decide_eq_true c28; clear c28; obtain ⟨bJ, dn⟩ : ∃ j_ : Int, (shr .i64 bx bh) = j_ := ⟨_, rfl⟩; replace H : (if (Go.bits .and .i64 (bJ) 1) = 0 then (spec_InsRead.l1 k2 a0 bi bx ba bm (wrap64 (bh + 1)) bj 0 0 0 0) else (if bm < (bi.length : Int) then (if 0 ≤ bm then ((spec_l7Num.f k2 (rdOf ByteArray.empty bi bm)).bind fun bt => (if bh < (ba.length : Int) then (spec_InsRead.l1 k2 a0 bi bx (ba.set (bh : Int).toNat bt) (wrap64 (bm + 1)) (wrap64 (bh + 1)) bj 0 0 0 0) else (none))) else (none)) else (spec_InsRead.l1 k2 a0 bi bx ba bm (wrap64 (bh + 1)) bj 0 0 0 0))) = some (r1, r2, r3, r4, r5, r6) := by first | (rw [dn] at H; exact H) | (simp only [dn] at H ⊢; exact H)
                have e9 : (bx / 2 ^ min bh.toNat 64) = bJ := dn; have ga : bh ≤ 64 → (bx / 2 ^ bh.toNat) = bJ := shr_small dn
                by_cases c30 : (Go.bits .and .i64 (bJ) 1) = 0
                · rw [if_pos c30] at H
                  have c30b0 : ((Go.bits .and .i64 (bJ) 1) == 0) = true := beq_iff_eq.mpr c30; have c30b1 : ((Go.bits .and .i64 (bJ) 1) != 0) = false := bne_eq_false_iff_eq.mpr c30; clear c30; have H' := Aside0.mk H; clear H; go_wp2
                  repeat (go_quiet (fail); try go_wp2)
                  go_roundg k2
                  case measure => have := bC.out; have := b0.out; omega
                  case rel => exact ⟨(ba), (bm), (wrap64 (bh + 1)), (by first | rfl | (simp; done) | (simp [*]; done)), (by first | rfl | (simp; done) | (simp [*]; done)), H', ⟨by have := bC.out; have := b0.out; omega⟩, ⟨by (with_reducible repeat (first | apply Kd.R_alloc | apply Kd.R_drewN | apply Kd.R_drew)); exact bg.out⟩, ⟨by (with_reducible repeat (first | apply Kd.R_alloc | apply Kd.R_drewN | apply Kd.R_drew)); exact bd.out⟩, ⟨nb bc⟩, ⟨nb bb⟩, ⟨nbe HB⟩⟩
                · rw [if_neg c30] at H
                  have c30b0 : ((Go.bits .and .i64 (bJ) 1) == 0) = false := beq_eq_false_iff_ne.mpr c30; have c30b1 : ((Go.bits .and .i64 (bJ) 1) != 0) = true := bne_iff_ne.mpr c30
                  by_cases c31 : bm < (bi.length : Int)
                  · rw [if_pos c31] at H
                    have c31b0 : decide (bm < (bi.length : Int)) = true := decide_eq_true c31; clear c31
                    by_cases c32 : 0 ≤ bm
                    · rw [if_pos c32] at H
                      have c32b0 : decide (0 ≤ bm) = true := decide_eq_true c32; clear c32; replace H := Option.bind_eq_some_iff.mp H; obtain ⟨bt, A330, H⟩ := H; replace H : (if bh < (ba.length : Int) then (spec_InsRead.l1 k2 a0 bi bx (ba.set (bh : Int).toNat bt) (wrap64 (bm + 1)) (wrap64 (bh + 1)) bj 0 0 0 0) else (none)) = some (r1, r2, r3, r4, r5, r6) := H; have A33 := Aside0.mk A330; clear A330
                      by_cases c34 : bh < (ba.length : Int)
                      · rw [if_pos c34] at H
                        have c34b0 : decide (bh < (ba.length : Int)) = true := decide_eq_true c34; clear c34; obtain ⟨b3, b4⟩ : ∃ y_ : List Int, y_ = (ba.set (bh : Int).toNat bt) := ⟨_, rfl⟩; replace H : (spec_InsRead.l1 k2 a0 bi bx b3 (wrap64 (bm + 1)) (wrap64 (bh + 1)) bj 0 0 0 0) = some (r1, r2, r3, r4, r5, r6) := by first | (rw [b4]; with_reducible exact H) | (have H2_ := (Option.bind_some _ _).symm.trans H; rw [b4]; with_reducible exact H2_) | (have H2_ := (Option.bind_some _ _).symm.trans H; with_reducible exact H2_) | with_reducible exact H | (rw [b4]; exact H) | exact H
                        have ds := Aside0.mk b4; clear b4; have H' := Aside0.mk H; clear H; obtain ⟨gb, gc, eK⟩ := Kd.R_slice bg.out; subst eK; have p158 : 0 ≤ (bm : Int) := of_decide_eq_true (by first | (with_reducible assumption) | assumption); have q158 : bm < (bi.length : Int) := of_decide_eq_true (by first | (with_reducible assumption) | assumption); obtain ⟨gd, e158, gf⟩ := Kd.at_string (Kd.R_reads' bg.out).2.2 bm p158 q158
                        cases e158
                        replace p158 := eq_true p158; replace q158 := eq_true q158
                        go_wp2_with (first | (go_at_call 16; (with_reducible refine (spec_l7Num.calls k2 (rdOf ByteArray.empty bi bm) bt _ A33.out).mono ?_); rintro e w' ⟨rfl, ⟨nd, rfl⟩⟩; (try first | exact ⟨rfl, _, World.drewN_drewN _ _ _⟩ | exact ⟨rfl, _, Eq.trans (World.drewN_drewN _ _ _) (congrArg (World.drewN _) (Nat.add_assoc _ _ _))⟩); have p35 : 0 ≤ (bh : Int) := of_decide_eq_true (by first | (with_reducible assumption) | assumption); have q35 : (bh : Int) < ((ba.length : Int) : Int) := of_decide_eq_true (by first | (with_reducible assumption) | assumption); obtain ⟨bA, bK, bL, bM, gl35, cl35, HG35⟩ := Kd.R_form bd.out (by omega); (first | cases bL | (injection bL with ea_ en_ ec_; (first | subst ea_ | (injection ea_ with ea_; subst ea_)); subst ec_; clear en_)); have b5 := Aside0.mk bM; have dD := Aside0.mk HG35; clear bM gl35 HG35; obtain ⟨dE, hf35_0⟩ := Kd.R_celln 0 bd.out (bh : Int) p35 q35; replace p35 := eq_true p35; replace q35 := eq_true q35; obtain ⟨b6, hz37_⟩ := Kd.R_celln 0 bd.out (bh : Int) (of_decide_eq_true (by first | (with_reducible assumption) | assumption)) (of_decide_eq_true (by first | (with_reducible assumption) | assumption)); have HP37 := Kd.R_putg bd.out (bh : Int) bt) | ((with_reducible refine gate_store (t := 3) (p := 58) rfl ?_); (try (rw [drewN_self wr]; generalize hq_ : World.drewN wr _ = wr; replace bg := Aside0.mk (Kd.R_at hq_ bg.out); replace bd := Aside0.mk (Kd.R_at hq_ bd.out); replace bc := Aside0.mk (blk_at hq_ bc.out); replace bb := Aside0.mk (blk_at hq_ bb.out); replace HB := Aside0.mk (below_at hq_ HB.out); clear hq_; (try (obtain ⟨b6, hz37_⟩ := Kd.R_celln 0 bd.out (bh : Int) (of_decide_eq_true (by first | (with_reducible assumption) | assumption)) (of_decide_eq_true (by first | (with_reducible assumption) | assumption)))); (try (have HP37 := Kd.R_putg bd.out (bh : Int) bt)))); refine store_event (t := 3) (p := 58) (v := ?vo_w38) (w1 := (wr.setCell ⟨bA, (bh : Int).toNat, none⟩ (.int .i64 bt))) ?hg ?ho ?hn ?hr ?_; (case ho => rfl); (case hg => rfl); (case hn => rfl); (case hr => first | (go_simp; done) | (go_simp; rfl)); intro bD hw; have hg : wr.grownBy bD (some bA) := (by rw [hw]; exact HP37.2); have hp_ : Kd.R (Kd.int .i64) 3 bD w.heap.size (fun _ => True) (.slice (some ⟨bA, 0, none⟩) ba.length bK) b3 := (by rw [hw, ds.out]; exact HP37.1); clear HP37; have bN := Aside0.mk (Kd.R_over' (v := (.slice (some ⟨bA, 0, none⟩) ba.length bK)) (nRo bg) (Kd.R_typed bd.out) (by decide) hg); have bO := Aside0.mk (hp_); have bP := Aside0.mk (blk_grown (g := bE) (o := .cells #[.int .i64 0, .int .i64 0, .int .i64 0, .int .i64 0, .int .i64 0] 23 (0, 0)) (nb bc) hg (Kd.R_ne bd.out bc.out (by decide))); have bQ := Aside0.mk (blk_grown (g := bf) (o := .cells #[.int .i64 bj, .int .i64 0, .int .i64 0, .int .i64 0, .int .i64 0] 23 (0, 0)) (nb bb) hg (Kd.R_ne bd.out bb.out (by decide))); have bR := Aside0.mk ((by rw [hw]; exact below_set (HB.out) b5.out : Below w.heap.size w bD)); clear bg bd bc bb HB; have bg := bN; have bd := bO; have bc := bP; have bb := bQ; have HB := bR; clear bN bO bP bQ bR; clear hg hw hp_))
                        repeat (go_quiet (first | (go_at_call 16; (with_reducible refine (spec_l7Num.calls k2 (rdOf ByteArray.empty bi bm) bt _ A33.out).mono ?_); rintro e w' ⟨rfl, ⟨nd, rfl⟩⟩; (try first | exact ⟨rfl, _, World.drewN_drewN _ _ _⟩ | exact ⟨rfl, _, Eq.trans (World.drewN_drewN _ _ _) (congrArg (World.drewN _) (Nat.add_assoc _ _ _))⟩); have p35 : 0 ≤ (bh : Int) := of_decide_eq_true (by first | (with_reducible assumption) | assumption); have q35 : (bh : Int) < ((ba.length : Int) : Int) := of_decide_eq_true (by first | (with_reducible assumption) | assumption); obtain ⟨bA, bK, bL, bM, gl35, cl35, HG35⟩ := Kd.R_form bd.out (by omega); (first | cases bL | (injection bL with ea_ en_ ec_; (first | subst ea_ | (injection ea_ with ea_; subst ea_)); subst ec_; clear en_)); have b5 := Aside0.mk bM; have dD := Aside0.mk HG35; clear bM gl35 HG35; obtain ⟨dE, hf35_0⟩ := Kd.R_celln 0 bd.out (bh : Int) p35 q35; replace p35 := eq_true p35; replace q35 := eq_true q35; obtain ⟨b6, hz37_⟩ := Kd.R_celln 0 bd.out (bh : Int) (of_decide_eq_true (by first | (with_reducible assumption) | assumption)) (of_decide_eq_true (by first | (with_reducible assumption) | assumption)); have HP37 := Kd.R_putg bd.out (bh : Int) bt) | ((with_reducible refine gate_store (t := 3) (p := 58) rfl ?_); (try (rw [drewN_self wr]; generalize hq_ : World.drewN wr _ = wr; replace bg := Aside0.mk (Kd.R_at hq_ bg.out); replace bd := Aside0.mk (Kd.R_at hq_ bd.out); replace bc := Aside0.mk (blk_at hq_ bc.out); replace bb := Aside0.mk (blk_at hq_ bb.out); replace HB := Aside0.mk (below_at hq_ HB.out); clear hq_; (try (obtain ⟨b6, hz37_⟩ := Kd.R_celln 0 bd.out (bh : Int) (of_decide_eq_true (by first | (with_reducible assumption) | assumption)) (of_decide_eq_true (by first | (with_reducible assumption) | assumption)))); (try (have HP37 := Kd.R_putg bd.out (bh : Int) bt)))); refine store_event (t := 3) (p := 58) (v := ?vo_w38) (w1 := (wr.setCell ⟨bA, (bh : Int).toNat, none⟩ (.int .i64 bt))) ?hg ?ho ?hn ?hr ?_; (case ho => rfl); (case hg => rfl); (case hn => rfl); (case hr => first | (go_simp; done) | (go_simp; rfl)); intro bD hw; have hg : wr.grownBy bD (some bA) := (by rw [hw]; exact HP37.2); have hp_ : Kd.R (Kd.int .i64) 3 bD w.heap.size (fun _ => True) (.slice (some ⟨bA, 0, none⟩) ba.length bK) b3 := (by rw [hw, ds.out]; exact HP37.1); clear HP37; have bN := Aside0.mk (Kd.R_over' (v := (.slice (some ⟨bA, 0, none⟩) ba.length bK)) (nRo bg) (Kd.R_typed bd.out) (by decide) hg); have bO := Aside0.mk (hp_); have bP := Aside0.mk (blk_grown (g := bE) (o := .cells #[.int .i64 0, .int .i64 0, .int .i64 0, .int .i64 0, .int .i64 0] 23 (0, 0)) (nb bc) hg (Kd.R_ne bd.out bc.out (by decide))); have bQ := Aside0.mk (blk_grown (g := bf) (o := .cells #[.int .i64 bj, .int .i64 0, .int .i64 0, .int .i64 0, .int .i64 0] 23 (0, 0)) (nb bb) hg (Kd.R_ne bd.out bb.out (by decide))); have bR := Aside0.mk ((by rw [hw]; exact below_set (HB.out) b5.out : Below w.heap.size w bD)); clear bg bd bc bb HB; have bg := bN; have bd := bO; have bc := bP; have bb := bQ; have HB := bR; clear bN bO bP bQ bR; clear hg hw hp_)); try go_wp2_with (first | (go_at_call 16; (with_reducible refine (spec_l7Num.calls k2 (rdOf ByteArray.empty bi bm) bt _ A33.out).mono ?_); rintro e w' ⟨rfl, ⟨nd, rfl⟩⟩; (try first | exact ⟨rfl, _, World.drewN_drewN _ _ _⟩ | exact ⟨rfl, _, Eq.trans (World.drewN_drewN _ _ _) (congrArg (World.drewN _) (Nat.add_assoc _ _ _))⟩); have p35 : 0 ≤ (bh : Int) := of_decide_eq_true (by first | (with_reducible assumption) | assumption); have q35 : (bh : Int) < ((ba.length : Int) : Int) := of_decide_eq_true (by first | (with_reducible assumption) | assumption); obtain ⟨bA, bK, bL, bM, gl35, cl35, HG35⟩ := Kd.R_form bd.out (by omega); (first | cases bL | (injection bL with ea_ en_ ec_; (first | subst ea_ | (injection ea_ with ea_; subst ea_)); subst ec_; clear en_)); have b5 := Aside0.mk bM; have dD := Aside0.mk HG35; clear bM gl35 HG35; obtain ⟨dE, hf35_0⟩ := Kd.R_celln 0 bd.out (bh : Int) p35 q35; replace p35 := eq_true p35; replace q35 := eq_true q35; obtain ⟨b6, hz37_⟩ := Kd.R_celln 0 bd.out (bh : Int) (of_decide_eq_true (by first | (with_reducible assumption) | assumption)) (of_decide_eq_true (by first | (with_reducible assumption) | assumption)); have HP37 := Kd.R_putg bd.out (bh : Int) bt) | ((with_reducible refine gate_store (t := 3) (p := 58) rfl ?_); (try (rw [drewN_self wr]; generalize hq_ : World.drewN wr _ = wr; replace bg := Aside0.mk (Kd.R_at hq_ bg.out); replace bd := Aside0.mk (Kd.R_at hq_ bd.out); replace bc := Aside0.mk (blk_at hq_ bc.out); replace bb := Aside0.mk (blk_at hq_ bb.out); replace HB := Aside0.mk (below_at hq_ HB.out); clear hq_; (try (obtain ⟨b6, hz37_⟩ := Kd.R_celln 0 bd.out (bh : Int) (of_decide_eq_true (by first | (with_reducible assumption) | assumption)) (of_decide_eq_true (by first | (with_reducible assumption) | assumption)))); (try (have HP37 := Kd.R_putg bd.out (bh : Int) bt)))); refine store_event (t := 3) (p := 58) (v := ?vo_w38) (w1 := (wr.setCell ⟨bA, (bh : Int).toNat, none⟩ (.int .i64 bt))) ?hg ?ho ?hn ?hr ?_; (case ho => rfl); (case hg => rfl); (case hn => rfl); (case hr => first | (go_simp; done) | (go_simp; rfl)); intro bD hw; have hg : wr.grownBy bD (some bA) := (by rw [hw]; exact HP37.2); have hp_ : Kd.R (Kd.int .i64) 3 bD w.heap.size (fun _ => True) (.slice (some ⟨bA, 0, none⟩) ba.length bK) b3 := (by rw [hw, ds.out]; exact HP37.1); clear HP37; have bN := Aside0.mk (Kd.R_over' (v := (.slice (some ⟨bA, 0, none⟩) ba.length bK)) (nRo bg) (Kd.R_typed bd.out) (by decide) hg); have bO := Aside0.mk (hp_); have bP := Aside0.mk (blk_grown (g := bE) (o := .cells #[.int .i64 0, .int .i64 0, .int .i64 0, .int .i64 0, .int .i64 0] 23 (0, 0)) (nb bc) hg (Kd.R_ne bd.out bc.out (by decide))); have bQ := Aside0.mk (blk_grown (g := bf) (o := .cells #[.int .i64 bj, .int .i64 0, .int .i64 0, .int .i64 0, .int .i64 0] 23 (0, 0)) (nb bb) hg (Kd.R_ne bd.out bb.out (by decide))); have bR := Aside0.mk ((by rw [hw]; exact below_set (HB.out) b5.out : Below w.heap.size w bD)); clear bg bd bc bb HB; have bg := bN; have bd := bO; have bc := bP; have bb := bQ; have HB := bR; clear bN bO bP bQ bR; clear hg hw hp_)))
                        go_roundg k2
                        case measure => have := bC.out; have := b0.out; omega
                        case rel => exact ⟨(b3), (wrap64 (bm + 1)), (wrap64 (bh + 1)), (by first | rfl | (simp; done) | (simp [*]; done)), (by first | rfl | (simp; done) | (simp [*]; done)), H', ⟨by have := bC.out; have := b0.out; omega⟩, ⟨by (with_reducible repeat (first | apply Kd.R_alloc | apply Kd.R_drewN | apply Kd.R_drew)); exact bg.out⟩, ⟨by (with_reducible repeat (first | apply Kd.R_alloc | apply Kd.R_drewN | apply Kd.R_drew)); exact bd.out⟩, ⟨nb bc⟩, ⟨nb bb⟩, ⟨nbe HB⟩⟩
                      · rw [if_neg c34] at H
                        exact absurd H (by simp)
                    · rw [if_neg c32] at H
                      exact absurd H (by simp)
                  · rw [if_neg c31] at H
                    have c31b0 : decide (bm < (bi.length : Int)) = false := decide_eq_false c31; clear c31; have H' := Aside0.mk H; clear H; obtain ⟨gg, gh, eL⟩ := Kd.R_slice bg.out; subst eL; go_wp2
                    repeat (go_quiet (fail); try go_wp2)
                    go_roundg k2
                    case measure => have := bC.out; have := b0.out; omega
                    case rel => exact ⟨(ba), (bm), (wrap64 (bh + 1)), (by first | rfl | (simp; done) | (simp [*]; done)), (by first | rfl | (simp; done) | (simp [*]; done)), H', ⟨by have := bC.out; have := b0.out; omega⟩, ⟨by (with_reducible repeat (first | apply Kd.R_alloc | apply Kd.R_drewN | apply Kd.R_drew)); exact bg.out⟩, ⟨by (with_reducible repeat (first | apply Kd.R_alloc | apply Kd.R_drewN | apply Kd.R_drew)); exact bd.out⟩, ⟨nb bc⟩, ⟨nb bb⟩, ⟨nbe HB⟩⟩
              · rw [if_neg c28] at H
                exact absurd H (by simp)
            · rw [if_neg c27] at H
              have c27b0 : decide (bh < 4) = false := decide_eq_false c27; clear c27
              by_cases c40 : 0 < (ba.length : Int)
              · rw [if_pos c40] at H
                have c40b0 : decide (0 < (ba.length : Int)) = true := decide_eq_true c40; have c40b1 : decide (0 < ba.length) = true := decide_eq_true (by omega); clear c40
                by_cases c41 : 1 < (ba.length : Int)
                · rw [if_pos c41] at H
                  have c41b0 : decide (1 < (ba.length : Int)) = true := decide_eq_true c41; have c41b1 : decide (1 < ba.length) = true := decide_eq_true (by omega); clear c41
                  by_cases c42 : 2 < (ba.length : Int)
                  · rw [if_pos c42] at H
                    have c42b0 : decide (2 < (ba.length : Int)) = true := decide_eq_true c42; have c42b1 : decide (2 < ba.length) = true := decide_eq_true (by omega); clear c42
                    by_cases c43 : 3 < (ba.length : Int)
                    · rw [if_pos c43] at H
                      have c43b0 : decide (3 < (ba.length : Int)) = true := decide_eq_true c43; have c43b1 : decide (3 < ba.length) = true := decide_eq_true (by omega); clear c43
                      by_cases c44 : a0.toList = ([] : List UInt8)
                      · rw [if_pos c44] at H
                        have c44b0 : (a0.toList == ([] : List UInt8)) = true := beq_iff_eq.mpr c44; have c44b1 : (a0.toList != ([] : List UInt8)) = false := bne_eq_false_iff_eq.mpr c44; clear c44; simp only [Option.some.injEq, Prod.mk.injEq] at H; obtain ⟨rfl, rfl, rfl, rfl, rfl, rfl⟩ := H; obtain ⟨gi, gj, eM⟩ := Kd.R_slice bd.out; subst eM; have p161 : 0 ≤ (0 : Int) := (by omega); have q161 : 0 < (ba.length : Int) := of_decide_eq_true (by first | (with_reducible assumption) | assumption); obtain ⟨bk, e161, bS⟩ := Kd.at_int (Kd.R_reads' bd.out).2.2 0 p161 q161
                        cases e161
                        have qi161 : (0 < ba.length) = True := eq_true (by omega); (try rw [show ((0 : Int)).toNat = 0 from rfl] at bS); (try rw [Addr.add_zero'] at bS); replace p161 := eq_true p161; replace q161 := eq_true q161; have gl := bF.out; have gm := bB.out; obtain ⟨gn, gp, gq, gr, gs⟩ := c5e bb; obtain ⟨gt, gu, gv, gw, gx⟩ := z5_ bb; have p162 : 0 ≤ (1 : Int) := (by omega); have q162 : 1 < (ba.length : Int) := of_decide_eq_true (by first | (with_reducible assumption) | assumption); obtain ⟨b7, e162, bw⟩ := Kd.at_int (Kd.R_reads' bd.out).2.2 1 p162 q162; obtain rfl : bk = b7 := (by injection e162); (try simp only [show (1 : Int).toNat = 1 from rfl, Nat.reduceMul, Nat.reduceEqDiff, Go.Addr.add, ↓reduceIte] at bw); have qi162 : (1 < ba.length) = True := eq_true (by omega); (try rw [show ((1 : Int)).toNat = 1 from rfl] at bw); have hn162_0 : bk.block ≠ bf := Kd.own_blk (Kd.R_ne bd.out bb.out (by decide)); replace bw := (cell_far (p := ⟨bf, 1, none⟩) (by first | (rw [add_block]; exact hn162_0) | (show (Addr.add _ _).block ≠ _; rw [add_block]; exact hn162_0) | exact hn162_0) (.int .i64 (rd ba 0))).trans bw; (try have dF := fun (n_ : Nat) => (show (((wr.drewN n_).setCell ⟨bf, 1, none⟩ (.int .i64 (rd ba 0)))).cell? _ = some _ from bw)); clear hn162_0; replace p162 := eq_true p162; replace q162 := eq_true q162; have p163 : 0 ≤ (2 : Int) := (by omega); have q163 : 2 < (ba.length : Int) := of_decide_eq_true (by first | (with_reducible assumption) | assumption); obtain ⟨b8, e163, bn⟩ := Kd.at_int (Kd.R_reads' bd.out).2.2 2 p163 q163; obtain rfl : bk = b8 := (by injection e163); (try simp only [show (2 : Int).toNat = 2 from rfl, Nat.reduceMul, Nat.reduceEqDiff, Go.Addr.add, ↓reduceIte] at bn); have qi163 : (2 < ba.length) = True := eq_true (by omega); (try rw [show ((2 : Int)).toNat = 2 from rfl] at bn); have hn163_0 : bk.block ≠ bf := Kd.own_blk (Kd.R_ne bd.out bb.out (by decide)); have hn163_1 : bk.block ≠ bf := Kd.own_blk (Kd.R_ne bd.out bb.out (by decide)); replace bn := (cell_far (p := ⟨bf, 1, none⟩) (by first | (rw [add_block]; exact hn163_0) | (show (Addr.add _ _).block ≠ _; rw [add_block]; exact hn163_0) | exact hn163_0) (.int .i64 (rd ba 0))).trans bn; replace bn := (cell_far (p := ⟨bf, 2, none⟩) (by first | (rw [add_block]; exact hn163_1) | (show (Addr.add _ _).block ≠ _; rw [add_block]; exact hn163_1) | exact hn163_1) (.int .i64 (rd ba 1))).trans bn; (try have dG := fun (n_ : Nat) => (show ((((wr.drewN n_).setCell ⟨bf, 1, none⟩ (.int .i64 (rd ba 0))).setCell ⟨bf, 2, none⟩ (.int .i64 (rd ba 1)))).cell? _ = some _ from bn)); clear hn163_0 hn163_1; replace p163 := eq_true p163; replace q163 := eq_true q163; have p164 : 0 ≤ (3 : Int) := (by omega); have q164 : 3 < (ba.length : Int) := of_decide_eq_true (by first | (with_reducible assumption) | assumption); obtain ⟨b9, e164, bl⟩ := Kd.at_int (Kd.R_reads' bd.out).2.2 3 p164 q164; obtain rfl : bk = b9 := (by injection e164); (try simp only [show (3 : Int).toNat = 3 from rfl, Nat.reduceMul, Nat.reduceEqDiff, Go.Addr.add, ↓reduceIte] at bl); have qi164 : (3 < ba.length) = True := eq_true (by omega); (try rw [show ((3 : Int)).toNat = 3 from rfl] at bl); have hn164_0 : bk.block ≠ bf := Kd.own_blk (Kd.R_ne bd.out bb.out (by decide)); have hn164_1 : bk.block ≠ bf := Kd.own_blk (Kd.R_ne bd.out bb.out (by decide)); have hn164_2 : bk.block ≠ bf := Kd.own_blk (Kd.R_ne bd.out bb.out (by decide)); replace bl := (cell_far (p := ⟨bf, 1, none⟩) (by first | (rw [add_block]; exact hn164_0) | (show (Addr.add _ _).block ≠ _; rw [add_block]; exact hn164_0) | exact hn164_0) (.int .i64 (rd ba 0))).trans bl; replace bl := (cell_far (p := ⟨bf, 2, none⟩) (by first | (rw [add_block]; exact hn164_1) | (show (Addr.add _ _).block ≠ _; rw [add_block]; exact hn164_1) | exact hn164_1) (.int .i64 (rd ba 1))).trans bl; replace bl := (cell_far (p := ⟨bf, 3, none⟩) (by first | (rw [add_block]; exact hn164_2) | (show (Addr.add _ _).block ≠ _; rw [add_block]; exact hn164_2) | exact hn164_2) (.int .i64 (rd ba 2))).trans bl; (try have dH := fun (n_ : Nat) => (show (((((wr.drewN n_).setCell ⟨bf, 1, none⟩ (.int .i64 (rd ba 0))).setCell ⟨bf, 2, none⟩ (.int .i64 (rd ba 1))).setCell ⟨bf, 3, none⟩ (.int .i64 (rd ba 2)))).cell? _ = some _ from bl)); clear hn164_0 hn164_1 hn164_2; replace p164 := eq_true p164; replace q164 := eq_true q164; obtain ⟨gy, gz, gA, gB, gC⟩ := c5e bc; obtain ⟨gD, gE, gF, gG, gH⟩ := z5_ bc; go_wp2
                        repeat (go_quiet (fail); try go_wp2)
                        refine bodyPost_ret (results_ct rfl _ _ bE 23 #[.int .i64 0, .int .i64 0, .int .i64 0, .int .i64 0, .int .i64 0] (0, 0) _ rfl (p5 bc (k4_ bB.out (nb bc))) Tryd.underlying23 rfl (by kernel_rfl)) rfl ?_; exact ⟨er_, nbe HB⟩
                      · rw [if_neg c44] at H
                        have c44b0 : (a0.toList == ([] : List UInt8)) = false := beq_eq_false_iff_ne.mpr c44; have c44b1 : (a0.toList != ([] : List UInt8)) = true := bne_iff_ne.mpr c44; replace H := Option.bind_eq_some_iff.mp H; obtain ⟨bz, A490, H⟩ := H; replace H : (if bz.toList = a0.toList then (some (bj, rd ba 0, rd ba 1, rd ba 2, rd ba 3, true)) else (some (0, 0, 0, 0, 0, false))) = some (r1, r2, r3, r4, r5, r6) := H; have A49 := Aside0.mk A490; clear A490
                        by_cases c50 : bz.toList = a0.toList
                        · rw [if_pos c50] at H
                          have c50b0 : (bz.toList == a0.toList) = true := beq_iff_eq.mpr c50; have c50b1 : (bz.toList != a0.toList) = false := bne_eq_false_iff_eq.mpr c50; clear c50; simp only [Option.some.injEq, Prod.mk.injEq] at H; obtain ⟨rfl, rfl, rfl, rfl, rfl, rfl⟩ := H; obtain ⟨gI, gJ, eN⟩ := Kd.R_slice bd.out; subst eN; have p161 : 0 ≤ (0 : Int) := (by omega); have q161 : 0 < (ba.length : Int) := of_decide_eq_true (by first | (with_reducible assumption) | assumption); obtain ⟨bk, e161, bS⟩ := Kd.at_int (Kd.R_reads' bd.out).2.2 0 p161 q161
                          cases e161
                          have qi161 : (0 < ba.length) = True := eq_true (by omega); (try rw [show ((0 : Int)).toNat = 0 from rfl] at bS); (try rw [Addr.add_zero'] at bS); replace p161 := eq_true p161; replace q161 := eq_true q161; have gK := bF.out; have gL := bB.out; obtain ⟨gM, gN, gO, gP, gQ⟩ := c5e bb; obtain ⟨gR, gS, gT, gU, gV⟩ := z5_ bb; have p162 : 0 ≤ (1 : Int) := (by omega); have q162 : 1 < (ba.length : Int) := of_decide_eq_true (by first | (with_reducible assumption) | assumption); obtain ⟨b7, e162, bw⟩ := Kd.at_int (Kd.R_reads' bd.out).2.2 1 p162 q162; obtain rfl : bk = b7 := (by injection e162); (try simp only [show (1 : Int).toNat = 1 from rfl, Nat.reduceMul, Nat.reduceEqDiff, Go.Addr.add, ↓reduceIte] at bw); have qi162 : (1 < ba.length) = True := eq_true (by omega); (try rw [show ((1 : Int)).toNat = 1 from rfl] at bw); have hn162_0 : bk.block ≠ bf := Kd.own_blk (Kd.R_ne bd.out bb.out (by decide)); replace bw := (cell_far (p := ⟨bf, 1, none⟩) (by first | (rw [add_block]; exact hn162_0) | (show (Addr.add _ _).block ≠ _; rw [add_block]; exact hn162_0) | exact hn162_0) (.int .i64 (rd ba 0))).trans bw; (try have dF := fun (n_ : Nat) => (show (((wr.drewN n_).setCell ⟨bf, 1, none⟩ (.int .i64 (rd ba 0)))).cell? _ = some _ from bw)); clear hn162_0; replace p162 := eq_true p162; replace q162 := eq_true q162; have p163 : 0 ≤ (2 : Int) := (by omega); have q163 : 2 < (ba.length : Int) := of_decide_eq_true (by first | (with_reducible assumption) | assumption); obtain ⟨b8, e163, bn⟩ := Kd.at_int (Kd.R_reads' bd.out).2.2 2 p163 q163; obtain rfl : bk = b8 := (by injection e163); (try simp only [show (2 : Int).toNat = 2 from rfl, Nat.reduceMul, Nat.reduceEqDiff, Go.Addr.add, ↓reduceIte] at bn); have qi163 : (2 < ba.length) = True := eq_true (by omega); (try rw [show ((2 : Int)).toNat = 2 from rfl] at bn); have hn163_0 : bk.block ≠ bf := Kd.own_blk (Kd.R_ne bd.out bb.out (by decide)); have hn163_1 : bk.block ≠ bf := Kd.own_blk (Kd.R_ne bd.out bb.out (by decide)); replace bn := (cell_far (p := ⟨bf, 1, none⟩) (by first | (rw [add_block]; exact hn163_0) | (show (Addr.add _ _).block ≠ _; rw [add_block]; exact hn163_0) | exact hn163_0) (.int .i64 (rd ba 0))).trans bn; replace bn := (cell_far (p := ⟨bf, 2, none⟩) (by first | (rw [add_block]; exact hn163_1) | (show (Addr.add _ _).block ≠ _; rw [add_block]; exact hn163_1) | exact hn163_1) (.int .i64 (rd ba 1))).trans bn; (try have dG := fun (n_ : Nat) => (show ((((wr.drewN n_).setCell ⟨bf, 1, none⟩ (.int .i64 (rd ba 0))).setCell ⟨bf, 2, none⟩ (.int .i64 (rd ba 1)))).cell? _ = some _ from bn)); clear hn163_0 hn163_1; replace p163 := eq_true p163; replace q163 := eq_true q163; have p164 : 0 ≤ (3 : Int) := (by omega); have q164 : 3 < (ba.length : Int) := of_decide_eq_true (by first | (with_reducible assumption) | assumption); obtain ⟨b9, e164, bl⟩ := Kd.at_int (Kd.R_reads' bd.out).2.2 3 p164 q164; obtain rfl : bk = b9 := (by injection e164); (try simp only [show (3 : Int).toNat = 3 from rfl, Nat.reduceMul, Nat.reduceEqDiff, Go.Addr.add, ↓reduceIte] at bl); have qi164 : (3 < ba.length) = True := eq_true (by omega); (try rw [show ((3 : Int)).toNat = 3 from rfl] at bl); have hn164_0 : bk.block ≠ bf := Kd.own_blk (Kd.R_ne bd.out bb.out (by decide)); have hn164_1 : bk.block ≠ bf := Kd.own_blk (Kd.R_ne bd.out bb.out (by decide)); have hn164_2 : bk.block ≠ bf := Kd.own_blk (Kd.R_ne bd.out bb.out (by decide)); replace bl := (cell_far (p := ⟨bf, 1, none⟩) (by first | (rw [add_block]; exact hn164_0) | (show (Addr.add _ _).block ≠ _; rw [add_block]; exact hn164_0) | exact hn164_0) (.int .i64 (rd ba 0))).trans bl; replace bl := (cell_far (p := ⟨bf, 2, none⟩) (by first | (rw [add_block]; exact hn164_1) | (show (Addr.add _ _).block ≠ _; rw [add_block]; exact hn164_1) | exact hn164_1) (.int .i64 (rd ba 1))).trans bl; replace bl := (cell_far (p := ⟨bf, 3, none⟩) (by first | (rw [add_block]; exact hn164_2) | (show (Addr.add _ _).block ≠ _; rw [add_block]; exact hn164_2) | exact hn164_2) (.int .i64 (rd ba 2))).trans bl; (try have dH := fun (n_ : Nat) => (show (((((wr.drewN n_).setCell ⟨bf, 1, none⟩ (.int .i64 (rd ba 0))).setCell ⟨bf, 2, none⟩ (.int .i64 (rd ba 1))).setCell ⟨bf, 3, none⟩ (.int .i64 (rd ba 2)))).cell? _ = some _ from bl)); clear hn164_0 hn164_1 hn164_2; replace p164 := eq_true p164; replace q164 := eq_true q164
                          go_wp2_with (first | (go_at_call 17; (with_reducible refine (spec_InsText.calls k2 bj (rd ba 0) (rd ba 1) (rd ba 2) (rd ba 3) bz _ A49.out).mono ?_); rintro e dI ⟨rfl, hb⟩; replace bg := Aside0.mk (Kd.R_below (by (with_reducible repeat (first | apply Kd.R_alloc | apply Kd.R_drewN | apply Kd.R_drew)); exact (f4 (Kd.R_types bg.out bb.out (by decide)))) hb); replace bd := Aside0.mk (Kd.R_below (by (with_reducible repeat (first | apply Kd.R_alloc | apply Kd.R_drewN | apply Kd.R_drew)); exact (f4 (Kd.R_types bd.out bb.out (by decide)))) hb); replace bc := nblk bc hb; replace bb := Aside0.mk (blk_below (g := bf) (o := .cells #[.int .i64 bj, .int .i64 (rd ba 0), .int .i64 (rd ba 1), .int .i64 (rd ba 2), .int .i64 (rd ba 3)] 23 (0, 0)) (qp bb) hb); replace HB := nbs HB hb; (try clear hb); obtain ⟨dJ, dK, dL, dM, dN⟩ := c5e bb; obtain ⟨dO, dP, dQ, dR, dS⟩ := z5_ bb; obtain ⟨dT, dU, dV, dW, dX⟩ := c5e bc; obtain ⟨dY, dZ, d0, d1, d2⟩ := z5_ bc))
                          repeat (go_quiet (first | (go_at_call 17; (with_reducible refine (spec_InsText.calls k2 bj (rd ba 0) (rd ba 1) (rd ba 2) (rd ba 3) bz _ A49.out).mono ?_); rintro e dI ⟨rfl, hb⟩; replace bg := Aside0.mk (Kd.R_below (by (with_reducible repeat (first | apply Kd.R_alloc | apply Kd.R_drewN | apply Kd.R_drew)); exact (f4 (Kd.R_types bg.out bb.out (by decide)))) hb); replace bd := Aside0.mk (Kd.R_below (by (with_reducible repeat (first | apply Kd.R_alloc | apply Kd.R_drewN | apply Kd.R_drew)); exact (f4 (Kd.R_types bd.out bb.out (by decide)))) hb); replace bc := nblk bc hb; replace bb := Aside0.mk (blk_below (g := bf) (o := .cells #[.int .i64 bj, .int .i64 (rd ba 0), .int .i64 (rd ba 1), .int .i64 (rd ba 2), .int .i64 (rd ba 3)] 23 (0, 0)) (qp bb) hb); replace HB := nbs HB hb; (try clear hb); obtain ⟨dJ, dK, dL, dM, dN⟩ := c5e bb; obtain ⟨dO, dP, dQ, dR, dS⟩ := z5_ bb; obtain ⟨dT, dU, dV, dW, dX⟩ := c5e bc; obtain ⟨dY, dZ, d0, d1, d2⟩ := z5_ bc)); try go_wp2_with (first | (go_at_call 17; (with_reducible refine (spec_InsText.calls k2 bj (rd ba 0) (rd ba 1) (rd ba 2) (rd ba 3) bz _ A49.out).mono ?_); rintro e dI ⟨rfl, hb⟩; replace bg := Aside0.mk (Kd.R_below (by (with_reducible repeat (first | apply Kd.R_alloc | apply Kd.R_drewN | apply Kd.R_drew)); exact (f4 (Kd.R_types bg.out bb.out (by decide)))) hb); replace bd := Aside0.mk (Kd.R_below (by (with_reducible repeat (first | apply Kd.R_alloc | apply Kd.R_drewN | apply Kd.R_drew)); exact (f4 (Kd.R_types bd.out bb.out (by decide)))) hb); replace bc := nblk bc hb; replace bb := Aside0.mk (blk_below (g := bf) (o := .cells #[.int .i64 bj, .int .i64 (rd ba 0), .int .i64 (rd ba 1), .int .i64 (rd ba 2), .int .i64 (rd ba 3)] 23 (0, 0)) (qp bb) hb); replace HB := nbs HB hb; (try clear hb); obtain ⟨dJ, dK, dL, dM, dN⟩ := c5e bb; obtain ⟨dO, dP, dQ, dR, dS⟩ := z5_ bb; obtain ⟨dT, dU, dV, dW, dX⟩ := c5e bc; obtain ⟨dY, dZ, d0, d1, d2⟩ := z5_ bc)))
                          refine bodyPost_ret (results_ct rfl _ _ bE 23 #[.int .i64 bj, .int .i64 (rd ba 0), .int .i64 (rd ba 1), .int .i64 (rd ba 2), .int .i64 (rd ba 3)] (0, 0) _ rfl (q5 bc) Tryd.underlying23 rfl (by kernel_rfl)) rfl ?_; exact ⟨er_, nbe HB⟩
                        · rw [if_neg c50] at H
                          have c50b0 : (bz.toList == a0.toList) = false := beq_eq_false_iff_ne.mpr c50; have c50b1 : (bz.toList != a0.toList) = true := bne_iff_ne.mpr c50; simp only [Option.some.injEq, Prod.mk.injEq] at H; obtain ⟨rfl, rfl, rfl, rfl, rfl, rfl⟩ := H; obtain ⟨gW, gX, eO⟩ := Kd.R_slice bd.out; subst eO; have p161 : 0 ≤ (0 : Int) := (by omega); have q161 : 0 < (ba.length : Int) := of_decide_eq_true (by first | (with_reducible assumption) | assumption); obtain ⟨bk, e161, bS⟩ := Kd.at_int (Kd.R_reads' bd.out).2.2 0 p161 q161
                          cases e161
                          have qi161 : (0 < ba.length) = True := eq_true (by omega); (try rw [show ((0 : Int)).toNat = 0 from rfl] at bS); (try rw [Addr.add_zero'] at bS); replace p161 := eq_true p161; replace q161 := eq_true q161; have gY := bF.out; have gZ := bB.out; obtain ⟨g0, g2, g5, g6, g7⟩ := c5e bb; obtain ⟨g8, g9, ha, hc, hf⟩ := z5_ bb; have p162 : 0 ≤ (1 : Int) := (by omega); have q162 : 1 < (ba.length : Int) := of_decide_eq_true (by first | (with_reducible assumption) | assumption); obtain ⟨b7, e162, bw⟩ := Kd.at_int (Kd.R_reads' bd.out).2.2 1 p162 q162; obtain rfl : bk = b7 := (by injection e162); (try simp only [show (1 : Int).toNat = 1 from rfl, Nat.reduceMul, Nat.reduceEqDiff, Go.Addr.add, ↓reduceIte] at bw); have qi162 : (1 < ba.length) = True := eq_true (by omega); (try rw [show ((1 : Int)).toNat = 1 from rfl] at bw); have hn162_0 : bk.block ≠ bf := Kd.own_blk (Kd.R_ne bd.out bb.out (by decide)); replace bw := (cell_far (p := ⟨bf, 1, none⟩) (by first | (rw [add_block]; exact hn162_0) | (show (Addr.add _ _).block ≠ _; rw [add_block]; exact hn162_0) | exact hn162_0) (.int .i64 (rd ba 0))).trans bw; (try have dF := fun (n_ : Nat) => (show (((wr.drewN n_).setCell ⟨bf, 1, none⟩ (.int .i64 (rd ba 0)))).cell? _ = some _ from bw)); clear hn162_0; replace p162 := eq_true p162; replace q162 := eq_true q162; have p163 : 0 ≤ (2 : Int) := (by omega); have q163 : 2 < (ba.length : Int) := of_decide_eq_true (by first | (with_reducible assumption) | assumption); obtain ⟨b8, e163, bn⟩ := Kd.at_int (Kd.R_reads' bd.out).2.2 2 p163 q163; obtain rfl : bk = b8 := (by injection e163); (try simp only [show (2 : Int).toNat = 2 from rfl, Nat.reduceMul, Nat.reduceEqDiff, Go.Addr.add, ↓reduceIte] at bn); have qi163 : (2 < ba.length) = True := eq_true (by omega); (try rw [show ((2 : Int)).toNat = 2 from rfl] at bn); have hn163_0 : bk.block ≠ bf := Kd.own_blk (Kd.R_ne bd.out bb.out (by decide)); have hn163_1 : bk.block ≠ bf := Kd.own_blk (Kd.R_ne bd.out bb.out (by decide)); replace bn := (cell_far (p := ⟨bf, 1, none⟩) (by first | (rw [add_block]; exact hn163_0) | (show (Addr.add _ _).block ≠ _; rw [add_block]; exact hn163_0) | exact hn163_0) (.int .i64 (rd ba 0))).trans bn; replace bn := (cell_far (p := ⟨bf, 2, none⟩) (by first | (rw [add_block]; exact hn163_1) | (show (Addr.add _ _).block ≠ _; rw [add_block]; exact hn163_1) | exact hn163_1) (.int .i64 (rd ba 1))).trans bn; (try have dG := fun (n_ : Nat) => (show ((((wr.drewN n_).setCell ⟨bf, 1, none⟩ (.int .i64 (rd ba 0))).setCell ⟨bf, 2, none⟩ (.int .i64 (rd ba 1)))).cell? _ = some _ from bn)); clear hn163_0 hn163_1; replace p163 := eq_true p163; replace q163 := eq_true q163; have p164 : 0 ≤ (3 : Int) := (by omega); have q164 : 3 < (ba.length : Int) := of_decide_eq_true (by first | (with_reducible assumption) | assumption); obtain ⟨b9, e164, bl⟩ := Kd.at_int (Kd.R_reads' bd.out).2.2 3 p164 q164; obtain rfl : bk = b9 := (by injection e164); (try simp only [show (3 : Int).toNat = 3 from rfl, Nat.reduceMul, Nat.reduceEqDiff, Go.Addr.add, ↓reduceIte] at bl); have qi164 : (3 < ba.length) = True := eq_true (by omega); (try rw [show ((3 : Int)).toNat = 3 from rfl] at bl); have hn164_0 : bk.block ≠ bf := Kd.own_blk (Kd.R_ne bd.out bb.out (by decide)); have hn164_1 : bk.block ≠ bf := Kd.own_blk (Kd.R_ne bd.out bb.out (by decide)); have hn164_2 : bk.block ≠ bf := Kd.own_blk (Kd.R_ne bd.out bb.out (by decide)); replace bl := (cell_far (p := ⟨bf, 1, none⟩) (by first | (rw [add_block]; exact hn164_0) | (show (Addr.add _ _).block ≠ _; rw [add_block]; exact hn164_0) | exact hn164_0) (.int .i64 (rd ba 0))).trans bl; replace bl := (cell_far (p := ⟨bf, 2, none⟩) (by first | (rw [add_block]; exact hn164_1) | (show (Addr.add _ _).block ≠ _; rw [add_block]; exact hn164_1) | exact hn164_1) (.int .i64 (rd ba 1))).trans bl; replace bl := (cell_far (p := ⟨bf, 3, none⟩) (by first | (rw [add_block]; exact hn164_2) | (show (Addr.add _ _).block ≠ _; rw [add_block]; exact hn164_2) | exact hn164_2) (.int .i64 (rd ba 2))).trans bl; (try have dH := fun (n_ : Nat) => (show (((((wr.drewN n_).setCell ⟨bf, 1, none⟩ (.int .i64 (rd ba 0))).setCell ⟨bf, 2, none⟩ (.int .i64 (rd ba 1))).setCell ⟨bf, 3, none⟩ (.int .i64 (rd ba 2)))).cell? _ = some _ from bl)); clear hn164_0 hn164_1 hn164_2; replace p164 := eq_true p164; replace q164 := eq_true q164
                          go_wp2_with (first | (go_at_call 17; (with_reducible refine (spec_InsText.calls k2 bj (rd ba 0) (rd ba 1) (rd ba 2) (rd ba 3) bz _ A49.out).mono ?_); rintro e d3 ⟨rfl, hb⟩; replace bg := Aside0.mk (Kd.R_below (by (with_reducible repeat (first | apply Kd.R_alloc | apply Kd.R_drewN | apply Kd.R_drew)); exact (f4 (Kd.R_types bg.out bb.out (by decide)))) hb); replace bd := Aside0.mk (Kd.R_below (by (with_reducible repeat (first | apply Kd.R_alloc | apply Kd.R_drewN | apply Kd.R_drew)); exact (f4 (Kd.R_types bd.out bb.out (by decide)))) hb); replace bc := nblk bc hb; replace bb := Aside0.mk (blk_below (g := bf) (o := .cells #[.int .i64 bj, .int .i64 (rd ba 0), .int .i64 (rd ba 1), .int .i64 (rd ba 2), .int .i64 (rd ba 3)] 23 (0, 0)) (qp bb) hb); replace HB := nbs HB hb; (try clear hb); obtain ⟨d4, d5, d6, d7, d8⟩ := c5e bc; obtain ⟨d9, ea, eb, ec, ed⟩ := z5_ bc))
                          repeat (go_quiet (first | (go_at_call 17; (with_reducible refine (spec_InsText.calls k2 bj (rd ba 0) (rd ba 1) (rd ba 2) (rd ba 3) bz _ A49.out).mono ?_); rintro e d3 ⟨rfl, hb⟩; replace bg := Aside0.mk (Kd.R_below (by (with_reducible repeat (first | apply Kd.R_alloc | apply Kd.R_drewN | apply Kd.R_drew)); exact (f4 (Kd.R_types bg.out bb.out (by decide)))) hb); replace bd := Aside0.mk (Kd.R_below (by (with_reducible repeat (first | apply Kd.R_alloc | apply Kd.R_drewN | apply Kd.R_drew)); exact (f4 (Kd.R_types bd.out bb.out (by decide)))) hb); replace bc := nblk bc hb; replace bb := Aside0.mk (blk_below (g := bf) (o := .cells #[.int .i64 bj, .int .i64 (rd ba 0), .int .i64 (rd ba 1), .int .i64 (rd ba 2), .int .i64 (rd ba 3)] 23 (0, 0)) (qp bb) hb); replace HB := nbs HB hb; (try clear hb); obtain ⟨d4, d5, d6, d7, d8⟩ := c5e bc; obtain ⟨d9, ea, eb, ec, ed⟩ := z5_ bc)); try go_wp2_with (first | (go_at_call 17; (with_reducible refine (spec_InsText.calls k2 bj (rd ba 0) (rd ba 1) (rd ba 2) (rd ba 3) bz _ A49.out).mono ?_); rintro e d3 ⟨rfl, hb⟩; replace bg := Aside0.mk (Kd.R_below (by (with_reducible repeat (first | apply Kd.R_alloc | apply Kd.R_drewN | apply Kd.R_drew)); exact (f4 (Kd.R_types bg.out bb.out (by decide)))) hb); replace bd := Aside0.mk (Kd.R_below (by (with_reducible repeat (first | apply Kd.R_alloc | apply Kd.R_drewN | apply Kd.R_drew)); exact (f4 (Kd.R_types bd.out bb.out (by decide)))) hb); replace bc := nblk bc hb; replace bb := Aside0.mk (blk_below (g := bf) (o := .cells #[.int .i64 bj, .int .i64 (rd ba 0), .int .i64 (rd ba 1), .int .i64 (rd ba 2), .int .i64 (rd ba 3)] 23 (0, 0)) (qp bb) hb); replace HB := nbs HB hb; (try clear hb); obtain ⟨d4, d5, d6, d7, d8⟩ := c5e bc; obtain ⟨d9, ea, eb, ec, ed⟩ := z5_ bc)))
                          refine bodyPost_ret (results_ct rfl _ _ bE 23 #[.int .i64 0, .int .i64 0, .int .i64 0, .int .i64 0, .int .i64 0] (0, 0) _ rfl (q5 bc) Tryd.underlying23 rfl (by kernel_rfl)) rfl ?_; exact ⟨er_, nbe HB⟩
                    · rw [if_neg c43] at H
                      exact absurd H (by simp)
                  · rw [if_neg c42] at H
                    exact absurd H (by simp)
                · rw [if_neg c41] at H
                  exact absurd H (by simp)
              · rw [if_neg c40] at H
                exact absurd H (by simp)

-- NOT PRINTED: function 54 (utf8_RuneCountInString)

-- NOT PRINTED: function 66 (utf8_decodeRuneInStringSlow)

-- NOT PRINTED: function 55 (utf8_DecodeRuneInString)

-- NOT PRINTED: function 41 (strings_explode)

-- NOT PRINTED: function 74 (bytealg_IndexByteString)

-- NOT PRINTED: function 62 (stringslite_IndexByte)

-- NOT PRINTED: function 63 (bytealg_IndexString)

-- NOT PRINTED: function 64 (bytealg_Cutover)

-- NOT PRINTED: function 75 (bytealg_hashStr_string)

-- NOT PRINTED: function 65 (bytealg_IndexRabinKarp_string)

-- NOT PRINTED: function 53 (stringslite_Index)

-- NOT PRINTED: function 43 (strings_Index)

-- NOT PRINTED: function 56 (bytealg_CountString)

-- NOT PRINTED: function 42 (strings_Count)

-- NOT PRINTED: function 31 (strings_genSplit)

/-! ### what the shelf's contracts ask of the world's variables -/
def TabW (w : World) : Prop := Lib.TabIs Tryd.prog w "internal/strconv.uint64pow10" .u64 Lib.pow10Tab ∧ (∃ m, w.cell? ⟨2, 0, none⟩ = some (.int .i64 m)) ∧ (∃ t p, w.var? Tryd.prog "strconv.ErrSyntax" = some #[.iface t p]) ∧ (∃ t p, w.var? Tryd.prog "strconv.ErrRange" = some #[.iface t p])
theorem tabW_below {w W : World} (h : TabW w) (hb : Below w.heap.size w W) : TabW W := by
  obtain ⟨h1, ⟨m, h2⟩, ⟨t, p, h3⟩, ⟨t', p', h4⟩⟩ := h; have g1 : Tryd.prog.globalNamed "internal/strconv.uint64pow10" = some 5 := by kernel_rfl
  have g3 : Tryd.prog.globalNamed "strconv.ErrSyntax" = some 0 := by kernel_rfl
  have g4 : Tryd.prog.globalNamed "strconv.ErrRange" = some 1 := by kernel_rfl
  exact ⟨Go.Joins.tab_stays g1 h1 hb (Nat.le_refl _), ⟨m, (hb.cell (World.block_lt_of_cell? _ _ h2)).trans h2⟩, ⟨t, p, Go.Joins.var_stays g3 h3 hb (Nat.le_refl _)⟩, ⟨t', p', Go.Joins.var_stays g4 h4 hb (Nat.le_refl _)⟩⟩
theorem nT {w W' W : World} (H : Aside0 (TabW w)) (HB : Aside0 (Below w.heap.size w W')) (h : Below w.heap.size w W := by repeat (first | (with_reducible first | exact Aside0.out (by assumption) | apply below_alloc | apply pw_below_drewN | apply below_drew1 | refine below_set ?_ (Aside0.out (by assumption))) | exact Aside0.out (by assumption))) : TabW W := tabW_below H.out h
/-! ### strings_Split: function 18, by the shelf's contract -/
def strings_Split.f (s sep : ByteArray) : Option (List ByteArray) := if s.size < 4294967281 then (if 1 ≤ sep.size then (if Lib.countB s sep + 1 ≤ 9223372036854775807 then some (Lib.splitB sep 0 (Lib.countB s sep) s) else none) else none) else none
theorem strings_Split.row (W : World) (base : Nat) (xs : List ByteArray) (hb : base ≤ W.heap.size) (hm : xs.length ≤ 9223372036854775807) : Kd.R Kd.string 9 (W.alloc (.cells (xs.map Value.string).toArray 9)) base (fun _ => True) (.slice (some ⟨W.heap.size, 0, none⟩) xs.length xs.length) xs := by
  have h2 := World.ownsRow_lit (base := base) (e := 9) (size := 1) W (xs.map Value.string).toArray xs.length hb (by simpa [maxLen] using hm) (by simp); refine ⟨fun _ _ => trivial, xs.map Value.string, (by exact h2), ?_⟩
  have hr : ∀ (l : List ByteArray), Reps (Kd.string.M (W.alloc (.cells (xs.map Value.string).toArray 9)) base (fun k => True ∧ some k ≠ (Value.slice (some ⟨W.heap.size, 0, none⟩) xs.length xs.length).ownBlock)) Kd.string.sz l (l.map Value.string) := by
    intro l
    induction l with
    | nil => exact Reps.none _ _
    | cons a l ih => exact Reps.one rfl ih
  exact hr xs
theorem strings_Split.calls (s sep : ByteArray) (r : List ByteArray) (w : World) (h : strings_Split.f s sep = some r) (hT_ : TabW w) :
  Calls Tryd.prog 18 #[.string s, .string sep] w fun e w' => ∃ v0_ : Value, e = .returned (v0_) ∧ Kd.R Kd.string 9 w' w.heap.size (fun _ => True) v0_ r ∧ Below w.heap.size w w' := by
 unfold strings_Split.f at h
 by_cases h0 : s.size < 4294967281
 · rw [if_pos h0] at h
   by_cases h1 : 1 ≤ sep.size
   · rw [if_pos h1] at h
     by_cases h2 : Lib.countB s sep + 1 ≤ 9223372036854775807
     · rw [if_pos h2] at h
       obtain rfl := Option.some.inj h; obtain ⟨m, hm⟩ := hT_.2.1; refine (Tryd.strings_Split s sep m w h0 hm h1).mono ?_; rintro e w' ⟨rfl, rfl⟩; have hl : (Lib.splitB sep 0 (Lib.countB s sep) s).length = Lib.countB s sep + 1 := Lib.splitB_all sep h1 0 _ s rfl; refine ⟨_, rfl, ?_, below_alloc (Below.refl _ _) _⟩; rw [← hl]; exact strings_Split.row w _ _ (Nat.le_refl _) (by rw [hl]; exact h2)
     · rw [if_neg h2] at h
       exact absurd h (by simp)
   · rw [if_neg h1] at h
     exact absurd h (by simp)
 · rw [if_neg h0] at h
   exact absurd h (by simp)

/-! ### slices_Index_string_string: function 19 -/
def slices_Index_string_string.l0 : Nat → List ByteArray → ByteArray → Int → Int → Option (Int)
  | 0, _, _, _, _ => none
  | k + 1, x0, x1, x7, x8 => if x8 < x7 then (if 0 ≤ x8 then (if x8 < (x0.length : Int) then (if x1.toList = (rdOf ByteArray.empty x0 x8).toList then (some x8) else (slices_Index_string_string.l0 k x0 x1 x7 (wrap64 (x8 + 1)))) else (none)) else (none)) else (some (-1))
def slices_Index_string_string.f (k : Nat) (l0 : List ByteArray) (a1 : ByteArray) : Option (Int) := slices_Index_string_string.l0 k l0 a1 (l0.length : Int) 0
theorem slices_Index_string_string.mono_l : ∀ k, (∀ y0 y1 y2 y3, LeO (slices_Index_string_string.l0 k y0 y1 y2 y3) (slices_Index_string_string.l0 (k + 1) y0 y1 y2 y3))
  | 0 => fun _ _ _ _ r h => by simp [slices_Index_string_string.l0] at h
  | k + 1 => by
    have ih0 := slices_Index_string_string.mono_l k
    · intro y0 y1 y2 y3
      unfold slices_Index_string_string.l0
      repeat' first
      | (with_reducible exact ih0 _ _ _ _)
      | (with_reducible exact LeO.refl _)
      | (with_reducible exact LeO.none _)
      | (with_reducible refine LeO.ite ?_ ?_)
      | (with_reducible refine LeO.bind ?_ (fun _ => ?_))
      | exact ih0 _ _ _ _
      | exact LeO.none _
      | refine LeO.ite ?_ ?_
      | refine LeO.bind ?_ (fun _ => ?_)
theorem slices_Index_string_string.mono : ∀ a0 a1 k, LeO (slices_Index_string_string.f k a0 a1) (slices_Index_string_string.f (k + 1) a0 a1) := by
  intro a0 a1 k; have ih0 := slices_Index_string_string.mono_l k
  unfold slices_Index_string_string.f
  repeat' first
      | (with_reducible exact ih0 _ _ _ _)
      | (with_reducible exact LeO.refl _)
      | (with_reducible exact LeO.none _)
      | (with_reducible refine LeO.ite ?_ ?_)
      | (with_reducible refine LeO.bind ?_ (fun _ => ?_))
      | exact ih0 _ _ _ _
      | exact LeO.none _
      | refine LeO.ite ?_ ?_
      | refine LeO.bind ?_ (fun _ => ?_)
set_option maxHeartbeats 8000000 in
set_option maxRecDepth 100000 in
theorem slices_Index_string_string.calls (k : Nat) (A0 : Option Addr) (c0 : Nat) (l0 : List ByteArray) (a1 : ByteArray) (r : Int) (w : World) (hr0 : Kd.C Kd.string w A0 l0.length l0) (hc0 : l0.length ≤ c0) (h : slices_Index_string_string.f k l0 a1 = some r) :
    Calls Tryd.prog 19 #[.slice A0 l0.length c0, .string a1] w fun e w' => e = .returned (.int .i64 r) ∧ Drawn0 w w' := by
  have ee := Aside0.mk hr0; have hh := Aside0.mk hc0; clear hr0 hc0; have H : (slices_Index_string_string.l0 k l0 a1 (l0.length : Int) 0) = some r := h; clear h; have H' := Aside0.mk H; clear H
  go_enter Tryd.func19, Tryd.ntmps19
  go_wp2
  go_loopg [8] k (fun kq v8 w' => ∃ (bq : Int), v8 = .int .i64 bq ∧ Aside0 (slices_Index_string_string.l0 kq l0 a1 (l0.length : Int) bq = some r) ∧ Aside0 (kq ≤ k) ∧ Drawn0 w w')
  case atStart => exact ⟨(0), (by first | rfl | (simp; done) | (simp [*]; done)), H', ⟨Nat.le_refl _⟩, by repeat (first | exact Drawn0.refl _ | apply Drawn0.step)⟩
  case round =>
    clear H'; try clear c1
    try clear p2
    obtain ⟨bq, rfl, HA, bC, ⟨m1, rfl⟩⟩ := hrel
    cases gk with
    | zero => exact absurd HA.out (by simp [slices_Index_string_string.l0])
    | succ k1 =>
      have H := HA.out; clear HA; simp only [slices_Index_string_string.l0] at H
      by_cases c3 : bq < (l0.length : Int)
      · rw [if_pos c3] at H
        have c3b0 : decide (bq < (l0.length : Int)) = true := decide_eq_true c3; clear c3
        by_cases c4 : 0 ≤ bq
        · rw [if_pos c4] at H
          have c4b0 : decide (0 ≤ bq) = true := decide_eq_true c4; clear c4
          by_cases c5 : bq < (l0.length : Int)
          · rw [if_pos c5] at H
            have c5b0 : decide (bq < (l0.length : Int)) = true := decide_eq_true c5; clear c5
            by_cases c6 : a1.toList = (rdOf ByteArray.empty l0 bq).toList
            · rw [if_pos c6] at H
              have c6b0 : (a1.toList == (rdOf ByteArray.empty l0 bq).toList) = true := beq_iff_eq.mpr c6; have c6b1 : (a1.toList != (rdOf ByteArray.empty l0 bq).toList) = false := bne_eq_false_iff_eq.mpr c6; clear c6; obtain rfl := Option.some.inj H; have p166 : 0 ≤ (bq : Int) := of_decide_eq_true (by first | (with_reducible assumption) | assumption); have q166 : bq < (l0.length : Int) := of_decide_eq_true (by first | (with_reducible assumption) | assumption); obtain ⟨eP, e166, eQ⟩ := Kd.at_string ee.out bq p166 q166
              cases e166
              replace p166 := eq_true p166; replace q166 := eq_true q166; go_wp2
              go_ret
              exact ⟨by first | rfl | (simp; done) | (simp [*]; done), by repeat (first | exact Drawn0.refl _ | apply Drawn0.step)⟩
            · rw [if_neg c6] at H
              have c6b0 : (a1.toList == (rdOf ByteArray.empty l0 bq).toList) = false := beq_eq_false_iff_ne.mpr c6; have c6b1 : (a1.toList != (rdOf ByteArray.empty l0 bq).toList) = true := bne_iff_ne.mpr c6; have H' := Aside0.mk H; clear H; have p166 : 0 ≤ (bq : Int) := of_decide_eq_true (by first | (with_reducible assumption) | assumption); have q166 : bq < (l0.length : Int) := of_decide_eq_true (by first | (with_reducible assumption) | assumption); obtain ⟨eP, e166, eQ⟩ := Kd.at_string ee.out bq p166 q166
              cases e166
              replace p166 := eq_true p166; replace q166 := eq_true q166; go_wp2
              go_roundg k1
              case measure => have := bC.out; omega
              case rel => exact ⟨(wrap64 (bq + 1)), (by first | rfl | (simp; done) | (simp [*]; done)), H', ⟨by have := bC.out; omega⟩, by repeat (first | exact Drawn0.refl _ | apply Drawn0.step)⟩
          · rw [if_neg c5] at H
            exact absurd H (by simp)
        · rw [if_neg c4] at H
          exact absurd H (by simp)
      · rw [if_neg c3] at H
        have c3b0 : decide (bq < (l0.length : Int)) = false := decide_eq_false c3; clear c3; obtain rfl := Option.some.inj H; go_wp2
        go_ret
        exact ⟨by first | rfl | (simp; done) | (simp [*]; done), by repeat (first | exact Drawn0.refl _ | apply Drawn0.step)⟩

/-! ### impl_opNames: function 20 -/
def impl_opNames.f  : Option (List ByteArray) := some (([(⟨#[]⟩ : ByteArray), (⟨#[115, 101, 116]⟩ : ByteArray), (⟨#[97, 100, 100]⟩ : ByteArray), (⟨#[109, 111, 118, 101]⟩ : ByteArray), (⟨#[119, 101, 97, 107]⟩ : ByteArray), (⟨#[98, 111, 117, 110, 100]⟩ : ByteArray), (⟨#[112, 111, 105, 110, 116]⟩ : ByteArray), (⟨#[115, 101, 97, 108]⟩ : ByteArray), (⟨#[111, 112, 101, 110]⟩ : ByteArray), (⟨#[105, 115]⟩ : ByteArray), (⟨#[108, 111, 97, 100]⟩ : ByteArray), (⟨#[115, 116, 111, 114, 101]⟩ : ByteArray), (⟨#[106, 117, 109, 112]⟩ : ByteArray), (⟨#[122, 101, 114, 111]⟩ : ByteArray), (⟨#[103, 111, 110, 101]⟩ : ByteArray), (⟨#[104, 97, 108, 116]⟩ : ByteArray)] : List ByteArray))
set_option maxHeartbeats 8000000 in
set_option maxRecDepth 100000 in
theorem impl_opNames.calls  (r : List ByteArray) (w : World) (h : impl_opNames.f  = some r) :
    Calls Tryd.prog 20 #[] w fun e w' => ∃ v0_ : Value, e = .returned (v0_) ∧ Kd.R Kd.string 9 w' w.heap.size (fun _ => True) v0_ r ∧ Below w.heap.size w w' := by
  have HB := Aside0.mk (Below.refl w.heap.size w); have H : (some (([(⟨#[]⟩ : ByteArray), (⟨#[115, 101, 116]⟩ : ByteArray), (⟨#[97, 100, 100]⟩ : ByteArray), (⟨#[109, 111, 118, 101]⟩ : ByteArray), (⟨#[119, 101, 97, 107]⟩ : ByteArray), (⟨#[98, 111, 117, 110, 100]⟩ : ByteArray), (⟨#[112, 111, 105, 110, 116]⟩ : ByteArray), (⟨#[115, 101, 97, 108]⟩ : ByteArray), (⟨#[111, 112, 101, 110]⟩ : ByteArray), (⟨#[105, 115]⟩ : ByteArray), (⟨#[108, 111, 97, 100]⟩ : ByteArray), (⟨#[115, 116, 111, 114, 101]⟩ : ByteArray), (⟨#[106, 117, 109, 112]⟩ : ByteArray), (⟨#[122, 101, 114, 111]⟩ : ByteArray), (⟨#[103, 111, 110, 101]⟩ : ByteArray), (⟨#[104, 97, 108, 116]⟩ : ByteArray)] : List ByteArray))) = some r := h; clear h; obtain ⟨eR, da⟩ : ∃ y_ : List ByteArray, y_ = (([(⟨#[]⟩ : ByteArray), (⟨#[115, 101, 116]⟩ : ByteArray), (⟨#[97, 100, 100]⟩ : ByteArray), (⟨#[109, 111, 118, 101]⟩ : ByteArray), (⟨#[119, 101, 97, 107]⟩ : ByteArray), (⟨#[98, 111, 117, 110, 100]⟩ : ByteArray), (⟨#[112, 111, 105, 110, 116]⟩ : ByteArray), (⟨#[115, 101, 97, 108]⟩ : ByteArray), (⟨#[111, 112, 101, 110]⟩ : ByteArray), (⟨#[105, 115]⟩ : ByteArray), (⟨#[108, 111, 97, 100]⟩ : ByteArray), (⟨#[115, 116, 111, 114, 101]⟩ : ByteArray), (⟨#[106, 117, 109, 112]⟩ : ByteArray), (⟨#[122, 101, 114, 111]⟩ : ByteArray), (⟨#[103, 111, 110, 101]⟩ : ByteArray), (⟨#[104, 97, 108, 116]⟩ : ByteArray)] : List ByteArray)) := ⟨_, rfl⟩; replace H : (some eR) = some r := by first | (rw [da]; with_reducible exact H) | (have H2_ := (Option.bind_some _ _).symm.trans H; rw [da]; with_reducible exact H2_) | (have H2_ := (Option.bind_some _ _).symm.trans H; with_reducible exact H2_) | with_reducible exact H | (rw [da]; exact H) | exact H
  have ef := Aside0.mk da; clear da; obtain rfl := Option.some.inj H
  go_enter Tryd.func20, Tryd.ntmps20
  go_wp2_with (first | ((with_reducible refine gate_dst (N := 1) rfl ?_); refine Kd.R_lit Kd.string _ 9 ?hg (N := 1) ?hd (xs := ([(⟨#[]⟩ : ByteArray), (⟨#[115, 101, 116]⟩ : ByteArray), (⟨#[97, 100, 100]⟩ : ByteArray), (⟨#[109, 111, 118, 101]⟩ : ByteArray), (⟨#[119, 101, 97, 107]⟩ : ByteArray), (⟨#[98, 111, 117, 110, 100]⟩ : ByteArray), (⟨#[112, 111, 105, 110, 116]⟩ : ByteArray), (⟨#[115, 101, 97, 108]⟩ : ByteArray), (⟨#[111, 112, 101, 110]⟩ : ByteArray), (⟨#[105, 115]⟩ : ByteArray), (⟨#[108, 111, 97, 100]⟩ : ByteArray), (⟨#[115, 116, 111, 114, 101]⟩ : ByteArray), (⟨#[106, 117, 109, 112]⟩ : ByteArray), (⟨#[122, 101, 114, 111]⟩ : ByteArray), (⟨#[103, 111, 110, 101]⟩ : ByteArray), (⟨#[104, 97, 108, 116]⟩ : ByteArray)] : List ByteArray)) (inner := [.string (⟨#[]⟩ : ByteArray), .string (⟨#[115, 101, 116]⟩ : ByteArray), .string (⟨#[97, 100, 100]⟩ : ByteArray), .string (⟨#[109, 111, 118, 101]⟩ : ByteArray), .string (⟨#[119, 101, 97, 107]⟩ : ByteArray), .string (⟨#[98, 111, 117, 110, 100]⟩ : ByteArray), .string (⟨#[112, 111, 105, 110, 116]⟩ : ByteArray), .string (⟨#[115, 101, 97, 108]⟩ : ByteArray), .string (⟨#[111, 112, 101, 110]⟩ : ByteArray), .string (⟨#[105, 115]⟩ : ByteArray), .string (⟨#[108, 111, 97, 100]⟩ : ByteArray), .string (⟨#[115, 116, 111, 114, 101]⟩ : ByteArray), .string (⟨#[106, 117, 109, 112]⟩ : ByteArray), .string (⟨#[122, 101, 114, 111]⟩ : ByteArray), .string (⟨#[103, 111, 110, 101]⟩ : ByteArray), .string (⟨#[104, 97, 108, 116]⟩ : ByteArray)]) (ok := fun _ => True) (okp := fun _ => True) ?hr ?hp (fun _ hk => hk) trivial (Below.refl _ _) (Nat.le_refl _) (by simp) ?_; (case hd => rfl); (case hg => rfl); (case hr => first | (go_simp; done) | (go_simp; rfl)); (case hp => exact (Reps.one (show Kd.M Kd.string _ _ _ (⟨#[]⟩ : ByteArray) [.string (⟨#[]⟩ : ByteArray)] from rfl) (Reps.one (show Kd.M Kd.string _ _ _ (⟨#[115, 101, 116]⟩ : ByteArray) [.string (⟨#[115, 101, 116]⟩ : ByteArray)] from rfl) (Reps.one (show Kd.M Kd.string _ _ _ (⟨#[97, 100, 100]⟩ : ByteArray) [.string (⟨#[97, 100, 100]⟩ : ByteArray)] from rfl) (Reps.one (show Kd.M Kd.string _ _ _ (⟨#[109, 111, 118, 101]⟩ : ByteArray) [.string (⟨#[109, 111, 118, 101]⟩ : ByteArray)] from rfl) (Reps.one (show Kd.M Kd.string _ _ _ (⟨#[119, 101, 97, 107]⟩ : ByteArray) [.string (⟨#[119, 101, 97, 107]⟩ : ByteArray)] from rfl) (Reps.one (show Kd.M Kd.string _ _ _ (⟨#[98, 111, 117, 110, 100]⟩ : ByteArray) [.string (⟨#[98, 111, 117, 110, 100]⟩ : ByteArray)] from rfl) (Reps.one (show Kd.M Kd.string _ _ _ (⟨#[112, 111, 105, 110, 116]⟩ : ByteArray) [.string (⟨#[112, 111, 105, 110, 116]⟩ : ByteArray)] from rfl) (Reps.one (show Kd.M Kd.string _ _ _ (⟨#[115, 101, 97, 108]⟩ : ByteArray) [.string (⟨#[115, 101, 97, 108]⟩ : ByteArray)] from rfl) (Reps.one (show Kd.M Kd.string _ _ _ (⟨#[111, 112, 101, 110]⟩ : ByteArray) [.string (⟨#[111, 112, 101, 110]⟩ : ByteArray)] from rfl) (Reps.one (show Kd.M Kd.string _ _ _ (⟨#[105, 115]⟩ : ByteArray) [.string (⟨#[105, 115]⟩ : ByteArray)] from rfl) (Reps.one (show Kd.M Kd.string _ _ _ (⟨#[108, 111, 97, 100]⟩ : ByteArray) [.string (⟨#[108, 111, 97, 100]⟩ : ByteArray)] from rfl) (Reps.one (show Kd.M Kd.string _ _ _ (⟨#[115, 116, 111, 114, 101]⟩ : ByteArray) [.string (⟨#[115, 116, 111, 114, 101]⟩ : ByteArray)] from rfl) (Reps.one (show Kd.M Kd.string _ _ _ (⟨#[106, 117, 109, 112]⟩ : ByteArray) [.string (⟨#[106, 117, 109, 112]⟩ : ByteArray)] from rfl) (Reps.one (show Kd.M Kd.string _ _ _ (⟨#[122, 101, 114, 111]⟩ : ByteArray) [.string (⟨#[122, 101, 114, 111]⟩ : ByteArray)] from rfl) (Reps.one (show Kd.M Kd.string _ _ _ (⟨#[103, 111, 110, 101]⟩ : ByteArray) [.string (⟨#[103, 111, 110, 101]⟩ : ByteArray)] from rfl) (Reps.one (show Kd.M Kd.string _ _ _ (⟨#[104, 97, 108, 116]⟩ : ByteArray) [.string (⟨#[104, 97, 108, 116]⟩ : ByteArray)] from rfl) (Reps.none _ _)))))))))))))))))); intro hj w1 db hb hg_ hnew_; clear hg_ hnew_; (first | rw [← ef.out] at db | (simp only [Int.reduceToNat] at db; rw [← ef.out] at db)); have eS := Aside0.mk (Kd.R_lower db (bsz HB)); replace HB := nbs HB hb; clear hb db))
  go_ret
  exact ⟨_, er_, by (with_reducible repeat (first | apply Kd.R_alloc | apply Kd.R_drewN | apply Kd.R_drew)); exact eS.out, nbe HB⟩

end Go.Proofs.YtdbffjaolbkedaaDoor.PFnExactInsRead
