-- Written by a program of this session (wip/patch.py turns a copy of the kit's print): the functions that the law reaches, and their walks.
import Derived.Test.YtdbffjaolbkedaaDoorPFnExactCodeReadx0
import Derived.Test.YtdbffjaolbkedaaDoorPFnExactCodeReadx1
import Derived.Test.YtdbffjaolbkedaaDoorPFnExactCodeReadx2
import Derived.Test.YtdbffjaolbkedaaDoorCFnExactCodeRead
namespace Go.Proofs.YtdbffjaolbkedaaDoor.PFnExactCodeRead
open Go.RowKit Go.Proofs.YtdbffjaolbkedaaDoorW.PrintWords Go.Proofs.YtdbffjaolbkedaaDoorW.PrintLast Go.Proofs.YtdbffjaolbkedaaDoorW.PrintMore Go.Proofs.YtdbffjaolbkedaaDoorW.Mine
attribute [local go_sem] max2_int min2_int max_two min_two max_three min_three max_four min_four   -- for this text's walks alone
set_option linter.unusedVariables false
set_option linter.unusedSimpArgs false

/-! ### spec_InsRead: function 5 -/
mutual
def spec_InsRead.l0 : Nat → ByteArray → List ByteArray → List ByteArray → Int → Int → Int → Int → Int → Int → Option (Int × Int × Int × Int × Int × Bool)
 | 0, _, _, _, _, _, _, _, _, _ => none
 | k + 1, x0, x4, x5, x7, bG, bT, bU, bV, bW => if x7 < (x5.length : Int) then (if 0 ≤ x7 then (if 0 < (x4.length : Int) then (if (rdOf ByteArray.empty x5 x7).toList = (rdOf ByteArray.empty x4 0).toList then (spec_InsRead.l0 k x0 x4 x5 (wrap64 (x7 + 1)) x7 bT bU bV bW) else (spec_InsRead.l0 k x0 x4 x5 (wrap64 (x7 + 1)) bG bT bU bV bW)) else (none)) else (none)) else ((spec_l6Has.f bG).bind fun bx => (spec_InsRead.l1 k x0 x4 bx (([0, 0, 0, 0] : List Int)) 1 0 bG bT bU bV bW))
def spec_InsRead.l1 : Nat → ByteArray → List ByteArray → Int → List Int → Int → Int → Int → Int → Int → Int → Int → Option (Int × Int × Int × Int × Int × Bool)
 | 0, _, _, _, _, _, _, _, _, _, _, _ => none
 | k + 1, x0, x4, x8, x9, b2, bI, bG, bT, bU, bV, bW => if bI < 4 then (if 0 ≤ bI then (if (Go.bits .and .i64 (shr .i64 x8 bI) 1) = 0 then (spec_InsRead.l1 k x0 x4 x8 x9 b2 (wrap64 (bI + 1)) bG bT bU bV bW) else (if b2 < (x4.length : Int) then (if 0 ≤ b2 then ((spec_l7Num.f k (rdOf ByteArray.empty x4 b2)).bind fun bt => (if bI < (x9.length : Int) then (spec_InsRead.l1 k x0 x4 x8 (x9.set (bI : Int).toNat bt) (wrap64 (b2 + 1)) (wrap64 (bI + 1)) bG bT bU bV bW) else (none))) else (none)) else (spec_InsRead.l1 k x0 x4 x8 x9 b2 (wrap64 (bI + 1)) bG bT bU bV bW))) else (none)) else (if 0 < (x9.length : Int) then (if 1 < (x9.length : Int) then (if 2 < (x9.length : Int) then (if 3 < (x9.length : Int) then (if x0.toList = ([] : List UInt8) then (some (0, 0, 0, 0, 0, false)) else ((spec_InsText.f k bG (rd x9 0) (rd x9 1) (rd x9 2) (rd x9 3)).bind fun bz => (if bz.toList = x0.toList then (some (bG, rd x9 0, rd x9 1, rd x9 2, rd x9 3, true)) else (some (0, 0, 0, 0, 0, false))))) else (none)) else (none)) else (none)) else (none))
end
def spec_InsRead.f (k : Nat) (a0 : ByteArray) : Option (Int × Int × Int × Int × Int × Bool) := (spec_l7Words.f k a0).bind fun bi => ((spec_l7Names.f).bind fun bp => (spec_InsRead.l0 k a0 bi bp 1 0 0 0 0 0))
theorem spec_InsRead.mono_l : ∀ k, (∀ y0 y1 y2 y3 y4 y5 y6 y7 y8, LeO (spec_InsRead.l0 k y0 y1 y2 y3 y4 y5 y6 y7 y8) (spec_InsRead.l0 (k + 1) y0 y1 y2 y3 y4 y5 y6 y7 y8)) ∧ (∀ y0 y1 y2 y3 y4 y5 y6 y7 y8 y9 du, LeO (spec_InsRead.l1 k y0 y1 y2 y3 y4 y5 y6 y7 y8 y9 du) (spec_InsRead.l1 (k + 1) y0 y1 y2 y3 y4 y5 y6 y7 y8 y9 du))
 | 0 => ⟨fun _ _ _ _ _ _ _ _ _ r h => by simp [spec_InsRead.l0] at h, fun _ _ _ _ _ _ _ _ _ _ _ r h => by simp [spec_InsRead.l1] at h⟩
 | k + 1 => by
  obtain ⟨ih0, ih1⟩ := spec_InsRead.mono_l k; refine ⟨?_, ?_⟩
  ·intro y0 y1 y2 y3 y4 y5 y6 y7 y8
   unfold spec_InsRead.l0
   repeat' first
   | (with_reducible exact ih0 _ _ _ _ _ _ _ _ _)
   | (with_reducible exact ih1 _ _ _ _ _ _ _ _ _ _ _)
   | (with_reducible exact spec_InsText.mono _ _ _ _ _ _)
   | (with_reducible exact spec_l7Num.mono _ _)
   | (with_reducible exact spec_l7Words.mono _ _)
   | (with_reducible exact LeO.refl _)
   | (with_reducible exact LeO.none _)
   | (with_reducible refine LeO.ite ?_ ?_)
   | (with_reducible refine LeO.bind ?_ (fun _ => ?_))
   | exact ih0 _ _ _ _ _ _ _ _ _
   | exact ih1 _ _ _ _ _ _ _ _ _ _ _
   | exact spec_InsText.mono _ _ _ _ _ _
   | exact spec_l7Num.mono _ _
   | exact spec_l7Words.mono _ _
   | exact LeO.none _
   | refine LeO.ite ?_ ?_
   | refine LeO.bind ?_ (fun _ => ?_)
  ·intro y0 y1 y2 y3 y4 y5 y6 y7 y8 y9 du
   unfold spec_InsRead.l1
   repeat' first
   | (with_reducible exact ih0 _ _ _ _ _ _ _ _ _)
   | (with_reducible exact ih1 _ _ _ _ _ _ _ _ _ _ _)
   | (with_reducible exact spec_InsText.mono _ _ _ _ _ _)
   | (with_reducible exact spec_l7Num.mono _ _)
   | (with_reducible exact spec_l7Words.mono _ _)
   | (with_reducible exact LeO.refl _)
   | (with_reducible exact LeO.none _)
   | (with_reducible refine LeO.ite ?_ ?_)
   | (with_reducible refine LeO.bind ?_ (fun _ => ?_))
   | exact ih0 _ _ _ _ _ _ _ _ _
   | exact ih1 _ _ _ _ _ _ _ _ _ _ _
   | exact spec_InsText.mono _ _ _ _ _ _
   | exact spec_l7Num.mono _ _
   | exact spec_l7Words.mono _ _
   | exact LeO.none _
   | refine LeO.ite ?_ ?_
   | refine LeO.bind ?_ (fun _ => ?_)
theorem spec_InsRead.mono : ∀ a0 k, LeO (spec_InsRead.f k a0) (spec_InsRead.f (k + 1) a0) := by
 intro a0 k; obtain ⟨ih0, ih1⟩ := spec_InsRead.mono_l k
 unfold spec_InsRead.f
 repeat' first
   | (with_reducible exact ih0 _ _ _ _ _ _ _ _ _)
   | (with_reducible exact ih1 _ _ _ _ _ _ _ _ _ _ _)
   | (with_reducible exact spec_InsText.mono _ _ _ _ _ _)
   | (with_reducible exact spec_l7Num.mono _ _)
   | (with_reducible exact spec_l7Words.mono _ _)
   | (with_reducible exact LeO.refl _)
   | (with_reducible exact LeO.none _)
   | (with_reducible refine LeO.ite ?_ ?_)
   | (with_reducible refine LeO.bind ?_ (fun _ => ?_))
   | exact ih0 _ _ _ _ _ _ _ _ _
   | exact ih1 _ _ _ _ _ _ _ _ _ _ _
   | exact spec_InsText.mono _ _ _ _ _ _
   | exact spec_l7Num.mono _ _
   | exact spec_l7Words.mono _ _
   | exact LeO.none _
   | refine LeO.ite ?_ ?_
   | refine LeO.bind ?_ (fun _ => ?_)
set_option maxHeartbeats 8000000 in
set_option maxRecDepth 100000 in
theorem spec_InsRead.calls (k : Nat) (a0 : ByteArray) (r1 : Int) (r2 : Int) (r3 : Int) (r4 : Int) (r5 : Int) (r6 : Bool) (w : World) (h : spec_InsRead.f k a0 = some (r1, r2, r3, r4, r5, r6)) :
  Calls Tryd.prog 5 #[.string a0] w fun e w' => e = .returned (.tuple #[.agg #[.int .i64 r1, .int .i64 r2, .int .i64 r3, .int .i64 r4, .int .i64 r5], .bool r6]) ∧ Below w.heap.size w w' := by
 have hu23 := Tryd.underlying23; have HB := Aside0.mk (Below.refl w.heap.size w); have H : ((spec_l7Words.f k a0).bind fun bi => ((spec_l7Names.f).bind fun bp => (spec_InsRead.l0 k a0 bi bp 1 0 0 0 0 0))) = some (r1, r2, r3, r4, r5, r6) := h; clear h; replace H := Option.bind_eq_some_iff.mp H; obtain ⟨bi, A20, H⟩ := H; replace H : ((spec_l7Names.f).bind fun bp => (spec_InsRead.l0 k a0 bi bp 1 0 0 0 0 0)) = some (r1, r2, r3, r4, r5, r6) := H; have A2 := Aside0.mk A20; clear A20; replace H := Option.bind_eq_some_iff.mp H; obtain ⟨bp, A30, H⟩ := H; replace H : (spec_InsRead.l0 k a0 bi bp 1 0 0 0 0 0) = some (r1, r2, r3, r4, r5, r6) := H; have A3 := Aside0.mk A30; clear A30; have H' := Aside0.mk H; clear H
 go_enter Tryd.func5, Tryd.ntmps5
 go_wp2_with (first | ((with_reducible refine gate_dst (N := 2) rfl ?_); (try (refine gate_guard (by rfl) ?_; dsimp only)); refine bxe 2 #[.int .i64 0, .int .i64 0, .int .i64 0, .int .i64 0, .int .i64 0] 23 ?_; intro bE hg w4 hbox hb; have bc := hbox; have dy := nge HB hg; have dz := nge HB hg; replace HB := nbs HB hb; clear hb hbox hg) | (go_at_call 13; (with_reducible refine (spec_l7Words.calls k a0 bi _ A2.out).mono ?_); rintro e w5 ⟨b6, rfl, br, hb⟩; have bu := Aside0.mk (Kd.R_lower br (bsz HB)); replace bc := nblk bc hb; replace HB := nbs HB hb; (try clear hb); (try clear br)) | (go_at_call 14; (with_reducible refine (spec_l7Names.calls  bp _ A3.out).mono ?_); rintro e w6 ⟨df, rfl, br, hb⟩; have bH := Aside0.mk (Kd.R_lower (Kd.R_new' br (Kd.R_lt (nRo bu))) (bsz HB)); replace bu := Aside0.mk (Kd.R_elder' (nRo bu) (Kd.R_base br) hb); replace bc := nblk bc hb; replace HB := nbs HB hb; (try clear hb); (try clear br)) | ((with_reducible refine gate_dst (N := 6) rfl ?_); (try (refine gate_guard (by rfl) ?_; dsimp only)); refine bxe 6 #[.int .i64 0, .int .i64 0, .int .i64 0, .int .i64 0, .int .i64 0] 23 ?_; intro bf hg w7 hbox hb; have bb := hbox; have dA := nge HB hg; have dB := nge HB hg; have bB := nlt bc hg; have bF := ngt bc hg; replace bu := nR bu hb; replace bH := nR bH hb; replace bc := nblk bc hb; replace HB := nbs HB hb; clear hb hbox hg; have dC := bF.out; have dD := bB.out; obtain ⟨dg, dh, di, dj, dk⟩ := c5e bb; obtain ⟨dl, dm, dn, dp, dq⟩ := z5_ bb))
 repeat (go_quiet (first | ((with_reducible refine gate_dst (N := 2) rfl ?_); (try (refine gate_guard (by rfl) ?_; dsimp only)); refine bxe 2 #[.int .i64 0, .int .i64 0, .int .i64 0, .int .i64 0, .int .i64 0] 23 ?_; intro bE hg w4 hbox hb; have bc := hbox; have dy := nge HB hg; have dz := nge HB hg; replace HB := nbs HB hb; clear hb hbox hg) | (go_at_call 13; (with_reducible refine (spec_l7Words.calls k a0 bi _ A2.out).mono ?_); rintro e w5 ⟨b6, rfl, br, hb⟩; have bu := Aside0.mk (Kd.R_lower br (bsz HB)); replace bc := nblk bc hb; replace HB := nbs HB hb; (try clear hb); (try clear br)) | (go_at_call 14; (with_reducible refine (spec_l7Names.calls  bp _ A3.out).mono ?_); rintro e w6 ⟨df, rfl, br, hb⟩; have bH := Aside0.mk (Kd.R_lower (Kd.R_new' br (Kd.R_lt (nRo bu))) (bsz HB)); replace bu := Aside0.mk (Kd.R_elder' (nRo bu) (Kd.R_base br) hb); replace bc := nblk bc hb; replace HB := nbs HB hb; (try clear hb); (try clear br)) | ((with_reducible refine gate_dst (N := 6) rfl ?_); (try (refine gate_guard (by rfl) ?_; dsimp only)); refine bxe 6 #[.int .i64 0, .int .i64 0, .int .i64 0, .int .i64 0, .int .i64 0] 23 ?_; intro bf hg w7 hbox hb; have bb := hbox; have dA := nge HB hg; have dB := nge HB hg; have bB := nlt bc hg; have bF := ngt bc hg; replace bu := nR bu hb; replace bH := nR bH hb; replace bc := nblk bc hb; replace HB := nbs HB hb; clear hb hbox hg; have dC := bF.out; have dD := bB.out; obtain ⟨dg, dh, di, dj, dk⟩ := c5e bb; obtain ⟨dl, dm, dn, dp, dq⟩ := z5_ bb)); try go_wp2_with (first | ((with_reducible refine gate_dst (N := 2) rfl ?_); (try (refine gate_guard (by rfl) ?_; dsimp only)); refine bxe 2 #[.int .i64 0, .int .i64 0, .int .i64 0, .int .i64 0, .int .i64 0] 23 ?_; intro bE hg w4 hbox hb; have bc := hbox; have dy := nge HB hg; have dz := nge HB hg; replace HB := nbs HB hb; clear hb hbox hg) | (go_at_call 13; (with_reducible refine (spec_l7Words.calls k a0 bi _ A2.out).mono ?_); rintro e w5 ⟨b6, rfl, br, hb⟩; have bu := Aside0.mk (Kd.R_lower br (bsz HB)); replace bc := nblk bc hb; replace HB := nbs HB hb; (try clear hb); (try clear br)) | (go_at_call 14; (with_reducible refine (spec_l7Names.calls  bp _ A3.out).mono ?_); rintro e w6 ⟨df, rfl, br, hb⟩; have bH := Aside0.mk (Kd.R_lower (Kd.R_new' br (Kd.R_lt (nRo bu))) (bsz HB)); replace bu := Aside0.mk (Kd.R_elder' (nRo bu) (Kd.R_base br) hb); replace bc := nblk bc hb; replace HB := nbs HB hb; (try clear hb); (try clear br)) | ((with_reducible refine gate_dst (N := 6) rfl ?_); (try (refine gate_guard (by rfl) ?_; dsimp only)); refine bxe 6 #[.int .i64 0, .int .i64 0, .int .i64 0, .int .i64 0, .int .i64 0] 23 ?_; intro bf hg w7 hbox hb; have bb := hbox; have dA := nge HB hg; have dB := nge HB hg; have bB := nlt bc hg; have bF := ngt bc hg; replace bu := nR bu hb; replace bH := nR bH hb; replace bc := nblk bc hb; replace HB := nbs HB hb; clear hb hbox hg; have dC := bF.out; have dD := bB.out; obtain ⟨dg, dh, di, dj, dk⟩ := c5e bb; obtain ⟨dl, dm, dn, dp, dq⟩ := z5_ bb)))
 go_loopg [7] k (fun kq v7 w' => ∃ (bq : Int) (bk : Int), v7 = .int .i64 bq ∧ Aside0 (spec_InsRead.l0 kq a0 bi bp bq bk 0 0 0 0 = some (r1, r2, r3, r4, r5, r6)) ∧ Aside0 (kq ≤ k) ∧ Aside0 (Kd.R Kd.string 9 w' w.heap.size (fun k_ => some k_ ≠ (df : Value).ownBlock) b6 bi) ∧ Aside0 (Kd.R Kd.string 9 w' w.heap.size (fun k_ => some k_ ≠ (b6 : Value).ownBlock) df bp) ∧ Aside0 (w'.heap[bE]? = some (.cells #[.int .i64 0, .int .i64 0, .int .i64 0, .int .i64 0, .int .i64 0] 23 (0, 0))) ∧ Aside0 (w'.heap[bf]? = some (.cells #[.int .i64 bk, .int .i64 0, .int .i64 0, .int .i64 0, .int .i64 0] 23 (0, 0))) ∧ Aside0 (Below w.heap.size w w'))
 case atStart => exact ⟨(1), (0), (by first | rfl | (simp; done) | (simp [*]; done)), H', ⟨Nat.le_refl _⟩, ⟨by (with_reducible repeat (first | apply Kd.R_alloc | apply Kd.R_drewN | apply Kd.R_drew)); exact Kd.R_mono (eR5_ (Kd.R_types bu.out bb.out (by decide))) (fun _ hk => hk.1.2)⟩, ⟨by (with_reducible repeat (first | apply Kd.R_alloc | apply Kd.R_drewN | apply Kd.R_drew)); exact Kd.R_mono (eR5_ (Kd.R_types bH.out bb.out (by decide))) (fun _ hk => hk.1.2)⟩, ⟨k5_ bB.out (nb bc)⟩, ⟨q5 bb⟩, ⟨nbe HB⟩⟩
 case round =>
  clear H'; try clear p2
  try clear c5
  try clear c8
  try clear dg
  try clear dh
  try clear di
  try clear dj
  try clear dk
  try clear dl
  try clear dm
  try clear dn
  try clear dp
  try clear dq
  obtain ⟨bq, bk, rfl, HA, bC, bg, bs, bc, bb, HB⟩ := hrel
  cases gk with
  | zero => exact absurd HA.out (by simp [spec_InsRead.l0])
  | succ k1 =>
   have H := HA.out; clear HA; simp only [spec_InsRead.l0] at H
   by_cases c10 : bq < (bp.length : Int)
   ·rw [if_pos c10] at H
    have c10b0 : decide (bq < (bp.length : Int)) = true := decide_eq_true c10; clear c10
    by_cases c11 : 0 ≤ bq
    ·rw [if_pos c11] at H
     have c11b0 : decide (0 ≤ bq) = true := decide_eq_true c11; clear c11
     by_cases c12 : 0 < (bi.length : Int)
     ·rw [if_pos c12] at H
      have c12b0 : decide (0 < (bi.length : Int)) = true := decide_eq_true c12; have c12b1 : decide (0 < bi.length) = true := decide_eq_true (by omega); clear c12
      by_cases c13 : (rdOf ByteArray.empty bp bq).toList = (rdOf ByteArray.empty bi 0).toList
      ·rw [if_pos c13] at H
       have c13b0 : ((rdOf ByteArray.empty bp bq).toList == (rdOf ByteArray.empty bi 0).toList) = true := beq_iff_eq.mpr c13; have c13b1 : ((rdOf ByteArray.empty bp bq).toList != (rdOf ByteArray.empty bi 0).toList) = false := bne_eq_false_iff_eq.mpr c13; clear c13; have H' := Aside0.mk H; clear H; obtain ⟨eU, eV, ek⟩ := Kd.R_slice bs.out; subst ek; have p152 : 0 ≤ (bq : Int) := of_decide_eq_true (by first | (with_reducible assumption) | assumption); have q152 : bq < (bp.length : Int) := of_decide_eq_true (by first | (with_reducible assumption) | assumption); obtain ⟨el, e152, dE⟩ := Kd.at_string (Kd.R_reads' bs.out).2.2 bq p152 q152
       cases e152
       replace p152 := eq_true p152; replace q152 := eq_true q152; obtain ⟨eW, eX, em⟩ := Kd.R_slice bg.out; subst em; have p153 : 0 ≤ (0 : Int) := (by omega); have q153 : 0 < (bi.length : Int) := of_decide_eq_true (by first | (with_reducible assumption) | assumption); obtain ⟨en, e153, b3⟩ := Kd.at_string (Kd.R_reads' bg.out).2.2 0 p153 q153
       cases e153
       have qi153 : (0 < bi.length) = True := eq_true (by omega); (try rw [show ((0 : Int)).toNat = 0 from rfl] at b3); (try rw [Addr.add_zero'] at b3); replace p153 := eq_true p153; replace q153 := eq_true q153; have eY := bF.out; have eZ := bB.out; obtain ⟨eo, ep, er, es, et⟩ := c5e bb; obtain ⟨eu, ev, ew, ex, ey⟩ := z5_ bb; go_wp2
       repeat (go_quiet (fail); try go_wp2)
       go_roundg k1
       case measure => have := bC.out; omega
       case rel => exact ⟨(wrap64 (bq + 1)), (bq), (by first | rfl | (simp; done) | (simp [*]; done)), H', ⟨by have := bC.out; omega⟩, ⟨by (with_reducible repeat (first | apply Kd.R_alloc | apply Kd.R_drewN | apply Kd.R_drew)); exact f1 (Kd.R_types bg.out bb.out (by decide))⟩, ⟨by (with_reducible repeat (first | apply Kd.R_alloc | apply Kd.R_drewN | apply Kd.R_drew)); exact f1 (Kd.R_types bs.out bb.out (by decide))⟩, ⟨k1_ bB.out (nb bc)⟩, ⟨qp bb⟩, ⟨nbe HB⟩⟩
      ·rw [if_neg c13] at H
       have c13b0 : ((rdOf ByteArray.empty bp bq).toList == (rdOf ByteArray.empty bi 0).toList) = false := beq_eq_false_iff_ne.mpr c13; have c13b1 : ((rdOf ByteArray.empty bp bq).toList != (rdOf ByteArray.empty bi 0).toList) = true := bne_iff_ne.mpr c13; have H' := Aside0.mk H; clear H; obtain ⟨e0, e1, ez⟩ := Kd.R_slice bs.out; subst ez; have p152 : 0 ≤ (bq : Int) := of_decide_eq_true (by first | (with_reducible assumption) | assumption); have q152 : bq < (bp.length : Int) := of_decide_eq_true (by first | (with_reducible assumption) | assumption); obtain ⟨el, e152, dE⟩ := Kd.at_string (Kd.R_reads' bs.out).2.2 bq p152 q152
       cases e152
       replace p152 := eq_true p152; replace q152 := eq_true q152; obtain ⟨e2, e3, eA⟩ := Kd.R_slice bg.out; subst eA; have p153 : 0 ≤ (0 : Int) := (by omega); have q153 : 0 < (bi.length : Int) := of_decide_eq_true (by first | (with_reducible assumption) | assumption); obtain ⟨en, e153, b3⟩ := Kd.at_string (Kd.R_reads' bg.out).2.2 0 p153 q153
       cases e153
       have qi153 : (0 < bi.length) = True := eq_true (by omega); (try rw [show ((0 : Int)).toNat = 0 from rfl] at b3); (try rw [Addr.add_zero'] at b3); replace p153 := eq_true p153; replace q153 := eq_true q153; go_wp2
       repeat (go_quiet (fail); try go_wp2)
       go_roundg k1
       case measure => have := bC.out; omega
       case rel => exact ⟨(wrap64 (bq + 1)), (bk), (by first | rfl | (simp; done) | (simp [*]; done)), H', ⟨by have := bC.out; omega⟩, ⟨by (with_reducible repeat (first | apply Kd.R_alloc | apply Kd.R_drewN | apply Kd.R_drew)); exact bg.out⟩, ⟨by (with_reducible repeat (first | apply Kd.R_alloc | apply Kd.R_drewN | apply Kd.R_drew)); exact bs.out⟩, ⟨nb bc⟩, ⟨nb bb⟩, ⟨nbe HB⟩⟩
     ·rw [if_neg c12] at H
      exact absurd H (by simp)
    ·rw [if_neg c11] at H
     exact absurd H (by simp)
   ·rw [if_neg c10] at H
    have c10b0 : decide (bq < (bp.length : Int)) = false := decide_eq_false c10; clear c10; replace H := Option.bind_eq_some_iff.mp H; obtain ⟨bx, A200, H⟩ := H; replace H : (spec_InsRead.l1 k1 a0 bi bx (([0, 0, 0, 0] : List Int)) 1 0 bk 0 0 0 0) = some (r1, r2, r3, r4, r5, r6) := H; have A20 := Aside0.mk A200; clear A200; obtain ⟨dF, b7⟩ : ∃ y_ : List Int, y_ = (([0, 0, 0, 0] : List Int)) := ⟨_, rfl⟩; replace H : (spec_InsRead.l1 k1 a0 bi bx dF 1 0 bk 0 0 0 0) = some (r1, r2, r3, r4, r5, r6) := by first | (rw [b7]; with_reducible exact H) | (have H2_ := (Option.bind_some _ _).symm.trans H; rw [b7]; with_reducible exact H2_) | (have H2_ := (Option.bind_some _ _).symm.trans H; with_reducible exact H2_) | with_reducible exact H | (rw [b7]; exact H) | exact H
    have b4 := Aside0.mk b7; clear b7; have H' := Aside0.mk H; clear H; obtain ⟨e4, e5, eB⟩ := Kd.R_slice bs.out; subst eB; have e6 := bF.out; have e7 := bB.out; obtain ⟨eC, eD, eE, eF, eG⟩ := c5e bb; obtain ⟨eH, eI, eJ, eK, eL⟩ := z5_ bb
    go_wp2_with (first | (go_at_call 15; (with_reducible refine (spec_l6Has.calls bk bx _ A20.out).mono ?_); rintro e dG ⟨rfl, hb⟩; replace bg := nR bg hb; replace bs := nR bs hb; replace bc := nblk bc hb; replace bb := nblk bb hb; replace HB := nbs HB hb; (try clear hb)) | ((with_reducible refine gate_dst (N := 35) rfl ?_); (try (refine gate_guard (by rfl) ?_; dsimp only)); refine Kd.R_lit (Kd.int .i64) _ 3 ?hg (N := 35) ?hd (xs := ([0, 0, 0, 0] : List Int)) (inner := [.int .i64 0, .int .i64 0, .int .i64 0, .int .i64 0]) (ok := fun _ => True) (okp := fun _ => True) ?hr ?hp (fun _ hk => hk) trivial (Below.refl _ _) (Nat.le_refl _) (by simp) ?_; (case hd => rfl); (case hg => rfl); (case hr => first | (go_simp; done) | (go_simp; rfl)); (case hp => exact (Reps.one (show Kd.M (Kd.int .i64) _ _ _ 0 [.int .i64 0] from rfl) (Reps.one (show Kd.M (Kd.int .i64) _ _ _ 0 [.int .i64 0] from rfl) (Reps.one (show Kd.M (Kd.int .i64) _ _ _ 0 [.int .i64 0] from rfl) (Reps.one (show Kd.M (Kd.int .i64) _ _ _ 0 [.int .i64 0] from rfl) (Reps.none _ _)))))); intro dv dH bv hb hg_ hnew_; clear hg_ hnew_; (first | rw [← b4.out] at bv | (simp only [Int.reduceToNat] at bv; rw [← b4.out] at bv)); have dw := Aside0.mk (Kd.R_lower bv (bsz HB)); replace bg := nR bg hb; replace bs := nR bs hb; replace bc := nblk bc hb; replace bb := nblk bb hb; replace HB := nbs HB hb; clear hb bv))
    repeat (go_quiet (first | (go_at_call 15; (with_reducible refine (spec_l6Has.calls bk bx _ A20.out).mono ?_); rintro e dG ⟨rfl, hb⟩; replace bg := nR bg hb; replace bs := nR bs hb; replace bc := nblk bc hb; replace bb := nblk bb hb; replace HB := nbs HB hb; (try clear hb)) | ((with_reducible refine gate_dst (N := 35) rfl ?_); (try (refine gate_guard (by rfl) ?_; dsimp only)); refine Kd.R_lit (Kd.int .i64) _ 3 ?hg (N := 35) ?hd (xs := ([0, 0, 0, 0] : List Int)) (inner := [.int .i64 0, .int .i64 0, .int .i64 0, .int .i64 0]) (ok := fun _ => True) (okp := fun _ => True) ?hr ?hp (fun _ hk => hk) trivial (Below.refl _ _) (Nat.le_refl _) (by simp) ?_; (case hd => rfl); (case hg => rfl); (case hr => first | (go_simp; done) | (go_simp; rfl)); (case hp => exact (Reps.one (show Kd.M (Kd.int .i64) _ _ _ 0 [.int .i64 0] from rfl) (Reps.one (show Kd.M (Kd.int .i64) _ _ _ 0 [.int .i64 0] from rfl) (Reps.one (show Kd.M (Kd.int .i64) _ _ _ 0 [.int .i64 0] from rfl) (Reps.one (show Kd.M (Kd.int .i64) _ _ _ 0 [.int .i64 0] from rfl) (Reps.none _ _)))))); intro dv dH bv hb hg_ hnew_; clear hg_ hnew_; (first | rw [← b4.out] at bv | (simp only [Int.reduceToNat] at bv; rw [← b4.out] at bv)); have dw := Aside0.mk (Kd.R_lower bv (bsz HB)); replace bg := nR bg hb; replace bs := nR bs hb; replace bc := nblk bc hb; replace bb := nblk bb hb; replace HB := nbs HB hb; clear hb bv)); try go_wp2_with (first | (go_at_call 15; (with_reducible refine (spec_l6Has.calls bk bx _ A20.out).mono ?_); rintro e dG ⟨rfl, hb⟩; replace bg := nR bg hb; replace bs := nR bs hb; replace bc := nblk bc hb; replace bb := nblk bb hb; replace HB := nbs HB hb; (try clear hb)) | ((with_reducible refine gate_dst (N := 35) rfl ?_); (try (refine gate_guard (by rfl) ?_; dsimp only)); refine Kd.R_lit (Kd.int .i64) _ 3 ?hg (N := 35) ?hd (xs := ([0, 0, 0, 0] : List Int)) (inner := [.int .i64 0, .int .i64 0, .int .i64 0, .int .i64 0]) (ok := fun _ => True) (okp := fun _ => True) ?hr ?hp (fun _ hk => hk) trivial (Below.refl _ _) (Nat.le_refl _) (by simp) ?_; (case hd => rfl); (case hg => rfl); (case hr => first | (go_simp; done) | (go_simp; rfl)); (case hp => exact (Reps.one (show Kd.M (Kd.int .i64) _ _ _ 0 [.int .i64 0] from rfl) (Reps.one (show Kd.M (Kd.int .i64) _ _ _ 0 [.int .i64 0] from rfl) (Reps.one (show Kd.M (Kd.int .i64) _ _ _ 0 [.int .i64 0] from rfl) (Reps.one (show Kd.M (Kd.int .i64) _ _ _ 0 [.int .i64 0] from rfl) (Reps.none _ _)))))); intro dv dH bv hb hg_ hnew_; clear hg_ hnew_; (first | rw [← b4.out] at bv | (simp only [Int.reduceToNat] at bv; rw [← b4.out] at bv)); have dw := Aside0.mk (Kd.R_lower bv (bsz HB)); replace bg := nR bg hb; replace bs := nR bs hb; replace bc := nblk bc hb; replace bb := nblk bb hb; replace HB := nbs HB hb; clear hb bv)))
    go_loopg [10, 11] k1 (fun kq eM eN w' => ∃ (ba : List Int) (bn : Int) (bh : Int), eM = .int .i64 bn ∧ eN = .int .i64 bh ∧ Aside0 (spec_InsRead.l1 kq a0 bi bx ba bn bh bk 0 0 0 0 = some (r1, r2, r3, r4, r5, r6)) ∧ Aside0 (kq ≤ k1) ∧ Aside0 (Kd.R Kd.string 9 w' w.heap.size (fun _ => True) b6 bi) ∧ Aside0 (Kd.R (Kd.int .i64) 3 w' w.heap.size (fun _ => True) dv ba) ∧ Aside0 (w'.heap[bE]? = some (.cells #[.int .i64 0, .int .i64 0, .int .i64 0, .int .i64 0, .int .i64 0] 23 (0, 0))) ∧ Aside0 (w'.heap[bf]? = some (.cells #[.int .i64 bk, .int .i64 0, .int .i64 0, .int .i64 0, .int .i64 0] 23 (0, 0))) ∧ Aside0 (Below w.heap.size w w'))
    case atStart => exact ⟨(dF), (1), (0), (by first | rfl | (simp; done) | (simp [*]; done)), (by first | rfl | (simp; done) | (simp [*]; done)), H', ⟨Nat.le_refl _⟩, ⟨by (with_reducible repeat (first | apply Kd.R_alloc | apply Kd.R_drewN | apply Kd.R_drew)); exact Kd.R_mono bg.out (fun _ hk => trivial)⟩, ⟨by (with_reducible repeat (first | apply Kd.R_alloc | apply Kd.R_drewN | apply Kd.R_drew)); exact dw.out⟩, ⟨nb bc⟩, ⟨nb bb⟩, ⟨nbe HB⟩⟩
    case round =>
     clear H'; try clear c1
     try clear p1
     try clear q1
     try clear e8
     try clear qi1
     try clear c2
     try clear p2
     try clear c5
     try clear p6
     try clear c8
     try clear c10
     try clear c10b0
     try clear c11
     try clear c11b0
     try clear c12
     try clear c12b0
     try clear c12b1
     try clear c13
     try clear c13b0
     try clear c13b1
     try clear p15
     try clear q15
     try clear e9
     try clear qi15
     try clear c16
     try clear c22
     try clear eo
     try clear ep
     try clear er
     try clear es
     try clear et
     try clear eC
     try clear eD
     try clear eE
     try clear eF
     try clear eG
     try clear dg
     try clear dh
     try clear di
     try clear dj
     try clear dk
     try clear eu
     try clear ev
     try clear ew
     try clear ex
     try clear ey
     try clear eH
     try clear eI
     try clear eJ
     try clear eK
     try clear eL
     try clear dl
     try clear dm
     try clear dn
     try clear dp
     try clear dq
     try clear dE
     try clear b3
     try clear p152
     try clear p153
     try clear p2
     try clear q152
     try clear q153
     obtain ⟨ba, bn, bh, rfl, rfl, HA, b5, bg, bd, bc, bb, HB⟩ := hrel
     cases gk with
     | zero => exact absurd HA.out (by simp [spec_InsRead.l1])
     | succ k2 =>
      have H := HA.out; clear HA; simp only [spec_InsRead.l1] at H
      by_cases c27 : bh < 4
      ·rw [if_pos c27] at H
       have c27b0 : decide (bh < 4) = true := decide_eq_true c27; clear c27
       by_cases c28 : 0 ≤ bh
       ·rw [if_pos c28] at H
        have c28b0 := eq_true c28; have c28b1 : decide (0 ≤ bh) = true := decide_eq_true c28; clear c28; obtain ⟨bJ, dr⟩ : ∃ j_ : Int, (shr .i64 bx bh) = j_ := ⟨_, rfl⟩; replace H : (if (Go.bits .and .i64 (bJ) 1) = 0 then (spec_InsRead.l1 k2 a0 bi bx ba bn (wrap64 (bh + 1)) bk 0 0 0 0) else (if bn < (bi.length : Int) then (if 0 ≤ bn then ((spec_l7Num.f k2 (rdOf ByteArray.empty bi bn)).bind fun bt => (if bh < (ba.length : Int) then (spec_InsRead.l1 k2 a0 bi bx (ba.set (bh : Int).toNat bt) (wrap64 (bn + 1)) (wrap64 (bh + 1)) bk 0 0 0 0) else (none))) else (none)) else (spec_InsRead.l1 k2 a0 bi bx ba bn (wrap64 (bh + 1)) bk 0 0 0 0))) = some (r1, r2, r3, r4, r5, r6) := by first | (rw [dr] at H; exact H) | (simp only [dr] at H ⊢; exact H)
        have ga : (bx / 2 ^ min bh.toNat 64) = bJ := dr; have gb : bh ≤ 64 → (bx / 2 ^ bh.toNat) = bJ := shr_small dr
        by_cases c30 : (Go.bits .and .i64 (bJ) 1) = 0
        ·rw [if_pos c30] at H
         have c30b0 : ((Go.bits .and .i64 (bJ) 1) == 0) = true := beq_iff_eq.mpr c30; have c30b1 : ((Go.bits .and .i64 (bJ) 1) != 0) = false := bne_eq_false_iff_eq.mpr c30; clear c30; have H' := Aside0.mk H; clear H; go_wp2
         repeat (go_quiet (fail); try go_wp2)
         go_roundg k2
         case measure => have := bC.out; have := b5.out; omega
         case rel => exact ⟨(ba), (bn), (wrap64 (bh + 1)), (by first | rfl | (simp; done) | (simp [*]; done)), (by first | rfl | (simp; done) | (simp [*]; done)), H', ⟨by have := bC.out; have := b5.out; omega⟩, ⟨by (with_reducible repeat (first | apply Kd.R_alloc | apply Kd.R_drewN | apply Kd.R_drew)); exact bg.out⟩, ⟨by (with_reducible repeat (first | apply Kd.R_alloc | apply Kd.R_drewN | apply Kd.R_drew)); exact bd.out⟩, ⟨nb bc⟩, ⟨nb bb⟩, ⟨nbe HB⟩⟩
        ·rw [if_neg c30] at H
         have c30b0 : ((Go.bits .and .i64 (bJ) 1) == 0) = false := beq_eq_false_iff_ne.mpr c30; have c30b1 : ((Go.bits .and .i64 (bJ) 1) != 0) = true := bne_iff_ne.mpr c30
         by_cases c31 : bn < (bi.length : Int)
         ·rw [if_pos c31] at H
          have c31b0 : decide (bn < (bi.length : Int)) = true := decide_eq_true c31; clear c31
          by_cases c32 : 0 ≤ bn
          ·rw [if_pos c32] at H
           have c32b0 : decide (0 ≤ bn) = true := decide_eq_true c32; clear c32; replace H := Option.bind_eq_some_iff.mp H; obtain ⟨bt, A330, H⟩ := H; replace H : (if bh < (ba.length : Int) then (spec_InsRead.l1 k2 a0 bi bx (ba.set (bh : Int).toNat bt) (wrap64 (bn + 1)) (wrap64 (bh + 1)) bk 0 0 0 0) else (none)) = some (r1, r2, r3, r4, r5, r6) := H; have A33 := Aside0.mk A330; clear A330
           by_cases c34 : bh < (ba.length : Int)
           ·rw [if_pos c34] at H
            have c34b0 : decide (bh < (ba.length : Int)) = true := decide_eq_true c34; clear c34; obtain ⟨b8, b9⟩ : ∃ y_ : List Int, y_ = (ba.set (bh : Int).toNat bt) := ⟨_, rfl⟩; replace H : (spec_InsRead.l1 k2 a0 bi bx b8 (wrap64 (bn + 1)) (wrap64 (bh + 1)) bk 0 0 0 0) = some (r1, r2, r3, r4, r5, r6) := by first | (rw [b9]; with_reducible exact H) | (have H2_ := (Option.bind_some _ _).symm.trans H; rw [b9]; with_reducible exact H2_) | (have H2_ := (Option.bind_some _ _).symm.trans H; with_reducible exact H2_) | with_reducible exact H | (rw [b9]; exact H) | exact H
            have dx := Aside0.mk b9; clear b9; have H' := Aside0.mk H; clear H; obtain ⟨gc, gd, eO⟩ := Kd.R_slice bg.out; subst eO; have p158 : 0 ≤ (bn : Int) := of_decide_eq_true (by first | (with_reducible assumption) | assumption); have q158 : bn < (bi.length : Int) := of_decide_eq_true (by first | (with_reducible assumption) | assumption); obtain ⟨gf, e158, gg⟩ := Kd.at_string (Kd.R_reads' bg.out).2.2 bn p158 q158
            cases e158
            replace p158 := eq_true p158; replace q158 := eq_true q158
            go_wp2_with (first | (go_at_call 16; (with_reducible refine (spec_l7Num.calls k2 (rdOf ByteArray.empty bi bn) bt _ A33.out).mono ?_); rintro e w' ⟨rfl, ⟨nd, rfl⟩⟩; (try first | exact ⟨rfl, _, World.drewN_drewN _ _ _⟩ | exact ⟨rfl, _, Eq.trans (World.drewN_drewN _ _ _) (congrArg (World.drewN _) (Nat.add_assoc _ _ _))⟩); have p35 : 0 ≤ (bh : Int) := of_decide_eq_true (by first | (with_reducible assumption) | assumption); have q35 : (bh : Int) < ((ba.length : Int) : Int) := of_decide_eq_true (by first | (with_reducible assumption) | assumption); obtain ⟨bA, bK, bL, bM, gl35, cl35, HG35⟩ := Kd.R_form bd.out (by omega); (first | cases bL | (injection bL with ea_ en_ ec_; (first | subst ea_ | (injection ea_ with ea_; subst ea_)); subst ec_; clear en_)); have da := Aside0.mk bM; have dI := Aside0.mk HG35; clear bM gl35 HG35; obtain ⟨dJ, hf35_0⟩ := Kd.R_celln 0 bd.out (bh : Int) p35 q35; replace p35 := eq_true p35; replace q35 := eq_true q35; obtain ⟨db, hz37_⟩ := Kd.R_celln 0 bd.out (bh : Int) (of_decide_eq_true (by first | (with_reducible assumption) | assumption)) (of_decide_eq_true (by first | (with_reducible assumption) | assumption)); have HP37 := Kd.R_putg bd.out (bh : Int) bt) | ((with_reducible refine gate_store (t := 3) (p := 58) rfl ?_); (try (rw [drewN_self wr]; generalize hq_ : World.drewN wr _ = wr; replace bg := Aside0.mk (Kd.R_at hq_ bg.out); replace bd := Aside0.mk (Kd.R_at hq_ bd.out); replace bc := Aside0.mk (blk_at hq_ bc.out); replace bb := Aside0.mk (blk_at hq_ bb.out); replace HB := Aside0.mk (below_at hq_ HB.out); clear hq_; (try (obtain ⟨db, hz37_⟩ := Kd.R_celln 0 bd.out (bh : Int) (of_decide_eq_true (by first | (with_reducible assumption) | assumption)) (of_decide_eq_true (by first | (with_reducible assumption) | assumption)))); (try (have HP37 := Kd.R_putg bd.out (bh : Int) bt)))); refine store_event (t := 3) (p := 58) (v := ?vo_w38) (w1 := (wr.setCell ⟨bA, (bh : Int).toNat, none⟩ (.int .i64 bt))) ?hg ?ho ?hn ?hr ?_; (case ho => rfl); (case hg => rfl); (case hn => rfl); (case hr => first | (go_simp; done) | (go_simp; rfl)); intro bD hw; have hg : wr.grownBy bD (some bA) := (by rw [hw]; exact HP37.2); have hp_ : Kd.R (Kd.int .i64) 3 bD w.heap.size (fun _ => True) (.slice (some ⟨bA, 0, none⟩) ba.length bK) b8 := (by rw [hw, dx.out]; exact HP37.1); clear HP37; have bN := Aside0.mk (Kd.R_over' (v := (.slice (some ⟨bA, 0, none⟩) ba.length bK)) (nRo bg) (Kd.R_typed bd.out) (by decide) hg); have bO := Aside0.mk (hp_); have bP := Aside0.mk (blk_grown (g := bE) (o := .cells #[.int .i64 0, .int .i64 0, .int .i64 0, .int .i64 0, .int .i64 0] 23 (0, 0)) (nb bc) hg (Kd.R_ne bd.out bc.out (by decide))); have bQ := Aside0.mk (blk_grown (g := bf) (o := .cells #[.int .i64 bk, .int .i64 0, .int .i64 0, .int .i64 0, .int .i64 0] 23 (0, 0)) (nb bb) hg (Kd.R_ne bd.out bb.out (by decide))); have bR := Aside0.mk ((by rw [hw]; exact below_set (HB.out) da.out : Below w.heap.size w bD)); clear bg bd bc bb HB; have bg := bN; have bd := bO; have bc := bP; have bb := bQ; have HB := bR; clear bN bO bP bQ bR; clear hg hw hp_))
            repeat (go_quiet (first | (go_at_call 16; (with_reducible refine (spec_l7Num.calls k2 (rdOf ByteArray.empty bi bn) bt _ A33.out).mono ?_); rintro e w' ⟨rfl, ⟨nd, rfl⟩⟩; (try first | exact ⟨rfl, _, World.drewN_drewN _ _ _⟩ | exact ⟨rfl, _, Eq.trans (World.drewN_drewN _ _ _) (congrArg (World.drewN _) (Nat.add_assoc _ _ _))⟩); have p35 : 0 ≤ (bh : Int) := of_decide_eq_true (by first | (with_reducible assumption) | assumption); have q35 : (bh : Int) < ((ba.length : Int) : Int) := of_decide_eq_true (by first | (with_reducible assumption) | assumption); obtain ⟨bA, bK, bL, bM, gl35, cl35, HG35⟩ := Kd.R_form bd.out (by omega); (first | cases bL | (injection bL with ea_ en_ ec_; (first | subst ea_ | (injection ea_ with ea_; subst ea_)); subst ec_; clear en_)); have da := Aside0.mk bM; have dI := Aside0.mk HG35; clear bM gl35 HG35; obtain ⟨dJ, hf35_0⟩ := Kd.R_celln 0 bd.out (bh : Int) p35 q35; replace p35 := eq_true p35; replace q35 := eq_true q35; obtain ⟨db, hz37_⟩ := Kd.R_celln 0 bd.out (bh : Int) (of_decide_eq_true (by first | (with_reducible assumption) | assumption)) (of_decide_eq_true (by first | (with_reducible assumption) | assumption)); have HP37 := Kd.R_putg bd.out (bh : Int) bt) | ((with_reducible refine gate_store (t := 3) (p := 58) rfl ?_); (try (rw [drewN_self wr]; generalize hq_ : World.drewN wr _ = wr; replace bg := Aside0.mk (Kd.R_at hq_ bg.out); replace bd := Aside0.mk (Kd.R_at hq_ bd.out); replace bc := Aside0.mk (blk_at hq_ bc.out); replace bb := Aside0.mk (blk_at hq_ bb.out); replace HB := Aside0.mk (below_at hq_ HB.out); clear hq_; (try (obtain ⟨db, hz37_⟩ := Kd.R_celln 0 bd.out (bh : Int) (of_decide_eq_true (by first | (with_reducible assumption) | assumption)) (of_decide_eq_true (by first | (with_reducible assumption) | assumption)))); (try (have HP37 := Kd.R_putg bd.out (bh : Int) bt)))); refine store_event (t := 3) (p := 58) (v := ?vo_w38) (w1 := (wr.setCell ⟨bA, (bh : Int).toNat, none⟩ (.int .i64 bt))) ?hg ?ho ?hn ?hr ?_; (case ho => rfl); (case hg => rfl); (case hn => rfl); (case hr => first | (go_simp; done) | (go_simp; rfl)); intro bD hw; have hg : wr.grownBy bD (some bA) := (by rw [hw]; exact HP37.2); have hp_ : Kd.R (Kd.int .i64) 3 bD w.heap.size (fun _ => True) (.slice (some ⟨bA, 0, none⟩) ba.length bK) b8 := (by rw [hw, dx.out]; exact HP37.1); clear HP37; have bN := Aside0.mk (Kd.R_over' (v := (.slice (some ⟨bA, 0, none⟩) ba.length bK)) (nRo bg) (Kd.R_typed bd.out) (by decide) hg); have bO := Aside0.mk (hp_); have bP := Aside0.mk (blk_grown (g := bE) (o := .cells #[.int .i64 0, .int .i64 0, .int .i64 0, .int .i64 0, .int .i64 0] 23 (0, 0)) (nb bc) hg (Kd.R_ne bd.out bc.out (by decide))); have bQ := Aside0.mk (blk_grown (g := bf) (o := .cells #[.int .i64 bk, .int .i64 0, .int .i64 0, .int .i64 0, .int .i64 0] 23 (0, 0)) (nb bb) hg (Kd.R_ne bd.out bb.out (by decide))); have bR := Aside0.mk ((by rw [hw]; exact below_set (HB.out) da.out : Below w.heap.size w bD)); clear bg bd bc bb HB; have bg := bN; have bd := bO; have bc := bP; have bb := bQ; have HB := bR; clear bN bO bP bQ bR; clear hg hw hp_)); try go_wp2_with (first | (go_at_call 16; (with_reducible refine (spec_l7Num.calls k2 (rdOf ByteArray.empty bi bn) bt _ A33.out).mono ?_); rintro e w' ⟨rfl, ⟨nd, rfl⟩⟩; (try first | exact ⟨rfl, _, World.drewN_drewN _ _ _⟩ | exact ⟨rfl, _, Eq.trans (World.drewN_drewN _ _ _) (congrArg (World.drewN _) (Nat.add_assoc _ _ _))⟩); have p35 : 0 ≤ (bh : Int) := of_decide_eq_true (by first | (with_reducible assumption) | assumption); have q35 : (bh : Int) < ((ba.length : Int) : Int) := of_decide_eq_true (by first | (with_reducible assumption) | assumption); obtain ⟨bA, bK, bL, bM, gl35, cl35, HG35⟩ := Kd.R_form bd.out (by omega); (first | cases bL | (injection bL with ea_ en_ ec_; (first | subst ea_ | (injection ea_ with ea_; subst ea_)); subst ec_; clear en_)); have da := Aside0.mk bM; have dI := Aside0.mk HG35; clear bM gl35 HG35; obtain ⟨dJ, hf35_0⟩ := Kd.R_celln 0 bd.out (bh : Int) p35 q35; replace p35 := eq_true p35; replace q35 := eq_true q35; obtain ⟨db, hz37_⟩ := Kd.R_celln 0 bd.out (bh : Int) (of_decide_eq_true (by first | (with_reducible assumption) | assumption)) (of_decide_eq_true (by first | (with_reducible assumption) | assumption)); have HP37 := Kd.R_putg bd.out (bh : Int) bt) | ((with_reducible refine gate_store (t := 3) (p := 58) rfl ?_); (try (rw [drewN_self wr]; generalize hq_ : World.drewN wr _ = wr; replace bg := Aside0.mk (Kd.R_at hq_ bg.out); replace bd := Aside0.mk (Kd.R_at hq_ bd.out); replace bc := Aside0.mk (blk_at hq_ bc.out); replace bb := Aside0.mk (blk_at hq_ bb.out); replace HB := Aside0.mk (below_at hq_ HB.out); clear hq_; (try (obtain ⟨db, hz37_⟩ := Kd.R_celln 0 bd.out (bh : Int) (of_decide_eq_true (by first | (with_reducible assumption) | assumption)) (of_decide_eq_true (by first | (with_reducible assumption) | assumption)))); (try (have HP37 := Kd.R_putg bd.out (bh : Int) bt)))); refine store_event (t := 3) (p := 58) (v := ?vo_w38) (w1 := (wr.setCell ⟨bA, (bh : Int).toNat, none⟩ (.int .i64 bt))) ?hg ?ho ?hn ?hr ?_; (case ho => rfl); (case hg => rfl); (case hn => rfl); (case hr => first | (go_simp; done) | (go_simp; rfl)); intro bD hw; have hg : wr.grownBy bD (some bA) := (by rw [hw]; exact HP37.2); have hp_ : Kd.R (Kd.int .i64) 3 bD w.heap.size (fun _ => True) (.slice (some ⟨bA, 0, none⟩) ba.length bK) b8 := (by rw [hw, dx.out]; exact HP37.1); clear HP37; have bN := Aside0.mk (Kd.R_over' (v := (.slice (some ⟨bA, 0, none⟩) ba.length bK)) (nRo bg) (Kd.R_typed bd.out) (by decide) hg); have bO := Aside0.mk (hp_); have bP := Aside0.mk (blk_grown (g := bE) (o := .cells #[.int .i64 0, .int .i64 0, .int .i64 0, .int .i64 0, .int .i64 0] 23 (0, 0)) (nb bc) hg (Kd.R_ne bd.out bc.out (by decide))); have bQ := Aside0.mk (blk_grown (g := bf) (o := .cells #[.int .i64 bk, .int .i64 0, .int .i64 0, .int .i64 0, .int .i64 0] 23 (0, 0)) (nb bb) hg (Kd.R_ne bd.out bb.out (by decide))); have bR := Aside0.mk ((by rw [hw]; exact below_set (HB.out) da.out : Below w.heap.size w bD)); clear bg bd bc bb HB; have bg := bN; have bd := bO; have bc := bP; have bb := bQ; have HB := bR; clear bN bO bP bQ bR; clear hg hw hp_)))
            go_roundg k2
            case measure => have := bC.out; have := b5.out; omega
            case rel => exact ⟨(b8), (wrap64 (bn + 1)), (wrap64 (bh + 1)), (by first | rfl | (simp; done) | (simp [*]; done)), (by first | rfl | (simp; done) | (simp [*]; done)), H', ⟨by have := bC.out; have := b5.out; omega⟩, ⟨by (with_reducible repeat (first | apply Kd.R_alloc | apply Kd.R_drewN | apply Kd.R_drew)); exact bg.out⟩, ⟨by (with_reducible repeat (first | apply Kd.R_alloc | apply Kd.R_drewN | apply Kd.R_drew)); exact bd.out⟩, ⟨nb bc⟩, ⟨nb bb⟩, ⟨nbe HB⟩⟩
           ·rw [if_neg c34] at H
            exact absurd H (by simp)
          ·rw [if_neg c32] at H
           exact absurd H (by simp)
         ·rw [if_neg c31] at H
          have c31b0 : decide (bn < (bi.length : Int)) = false := decide_eq_false c31; clear c31; have H' := Aside0.mk H; clear H; obtain ⟨gh, gi, eP⟩ := Kd.R_slice bg.out; subst eP; go_wp2
          repeat (go_quiet (fail); try go_wp2)
          go_roundg k2
          case measure => have := bC.out; have := b5.out; omega
          case rel => exact ⟨(ba), (bn), (wrap64 (bh + 1)), (by first | rfl | (simp; done) | (simp [*]; done)), (by first | rfl | (simp; done) | (simp [*]; done)), H', ⟨by have := bC.out; have := b5.out; omega⟩, ⟨by (with_reducible repeat (first | apply Kd.R_alloc | apply Kd.R_drewN | apply Kd.R_drew)); exact bg.out⟩, ⟨by (with_reducible repeat (first | apply Kd.R_alloc | apply Kd.R_drewN | apply Kd.R_drew)); exact bd.out⟩, ⟨nb bc⟩, ⟨nb bb⟩, ⟨nbe HB⟩⟩
       ·rw [if_neg c28] at H
        exact absurd H (by simp)
      ·rw [if_neg c27] at H
       have c27b0 : decide (bh < 4) = false := decide_eq_false c27; clear c27
       by_cases c40 : 0 < (ba.length : Int)
       ·rw [if_pos c40] at H
        have c40b0 : decide (0 < (ba.length : Int)) = true := decide_eq_true c40; have c40b1 : decide (0 < ba.length) = true := decide_eq_true (by omega); clear c40
        by_cases c41 : 1 < (ba.length : Int)
        ·rw [if_pos c41] at H
         have c41b0 : decide (1 < (ba.length : Int)) = true := decide_eq_true c41; have c41b1 : decide (1 < ba.length) = true := decide_eq_true (by omega); clear c41
         by_cases c42 : 2 < (ba.length : Int)
         ·rw [if_pos c42] at H
          have c42b0 : decide (2 < (ba.length : Int)) = true := decide_eq_true c42; have c42b1 : decide (2 < ba.length) = true := decide_eq_true (by omega); clear c42
          by_cases c43 : 3 < (ba.length : Int)
          ·rw [if_pos c43] at H
           have c43b0 : decide (3 < (ba.length : Int)) = true := decide_eq_true c43; have c43b1 : decide (3 < ba.length) = true := decide_eq_true (by omega); clear c43
           by_cases c44 : a0.toList = ([] : List UInt8)
           ·rw [if_pos c44] at H
            have c44b0 : (a0.toList == ([] : List UInt8)) = true := beq_iff_eq.mpr c44; have c44b1 : (a0.toList != ([] : List UInt8)) = false := bne_eq_false_iff_eq.mpr c44; clear c44; simp only [Option.some.injEq, Prod.mk.injEq] at H; obtain ⟨rfl, rfl, rfl, rfl, rfl, rfl⟩ := H; obtain ⟨gj, gl, eQ⟩ := Kd.R_slice bd.out; subst eQ; have p161 : 0 ≤ (0 : Int) := (by omega); have q161 : 0 < (ba.length : Int) := of_decide_eq_true (by first | (with_reducible assumption) | assumption); obtain ⟨bl, e161, bS⟩ := Kd.at_int (Kd.R_reads' bd.out).2.2 0 p161 q161
            cases e161
            have qi161 : (0 < ba.length) = True := eq_true (by omega); (try rw [show ((0 : Int)).toNat = 0 from rfl] at bS); (try rw [Addr.add_zero'] at bS); replace p161 := eq_true p161; replace q161 := eq_true q161; have gm := bF.out; have gn := bB.out; obtain ⟨gp, gq, gr, gs, gt⟩ := c5e bb; obtain ⟨gu, gv, gw, gx, gy⟩ := z5_ bb; have p162 : 0 ≤ (1 : Int) := (by omega); have q162 : 1 < (ba.length : Int) := of_decide_eq_true (by first | (with_reducible assumption) | assumption); obtain ⟨dc, e162, bw⟩ := Kd.at_int (Kd.R_reads' bd.out).2.2 1 p162 q162; obtain rfl : bl = dc := (by injection e162); (try simp only [show (1 : Int).toNat = 1 from rfl, Nat.reduceMul, Nat.reduceEqDiff, Go.Addr.add, ↓reduceIte] at bw); have qi162 : (1 < ba.length) = True := eq_true (by omega); (try rw [show ((1 : Int)).toNat = 1 from rfl] at bw); have hn162_0 : bl.block ≠ bf := Kd.own_blk (Kd.R_ne bd.out bb.out (by decide)); replace bw := (cell_far (p := ⟨bf, 1, none⟩) (by first | (rw [add_block]; exact hn162_0) | (show (Addr.add _ _).block ≠ _; rw [add_block]; exact hn162_0) | exact hn162_0) (.int .i64 (rd ba 0))).trans bw; (try have dK := fun (n_ : Nat) => (show (((wr.drewN n_).setCell ⟨bf, 1, none⟩ (.int .i64 (rd ba 0)))).cell? _ = some _ from bw)); clear hn162_0; replace p162 := eq_true p162; replace q162 := eq_true q162; have p163 : 0 ≤ (2 : Int) := (by omega); have q163 : 2 < (ba.length : Int) := of_decide_eq_true (by first | (with_reducible assumption) | assumption); obtain ⟨dd, e163, bo⟩ := Kd.at_int (Kd.R_reads' bd.out).2.2 2 p163 q163; obtain rfl : bl = dd := (by injection e163); (try simp only [show (2 : Int).toNat = 2 from rfl, Nat.reduceMul, Nat.reduceEqDiff, Go.Addr.add, ↓reduceIte] at bo); have qi163 : (2 < ba.length) = True := eq_true (by omega); (try rw [show ((2 : Int)).toNat = 2 from rfl] at bo); have hn163_0 : bl.block ≠ bf := Kd.own_blk (Kd.R_ne bd.out bb.out (by decide)); have hn163_1 : bl.block ≠ bf := Kd.own_blk (Kd.R_ne bd.out bb.out (by decide)); replace bo := (cell_far (p := ⟨bf, 1, none⟩) (by first | (rw [add_block]; exact hn163_0) | (show (Addr.add _ _).block ≠ _; rw [add_block]; exact hn163_0) | exact hn163_0) (.int .i64 (rd ba 0))).trans bo; replace bo := (cell_far (p := ⟨bf, 2, none⟩) (by first | (rw [add_block]; exact hn163_1) | (show (Addr.add _ _).block ≠ _; rw [add_block]; exact hn163_1) | exact hn163_1) (.int .i64 (rd ba 1))).trans bo; (try have dL := fun (n_ : Nat) => (show ((((wr.drewN n_).setCell ⟨bf, 1, none⟩ (.int .i64 (rd ba 0))).setCell ⟨bf, 2, none⟩ (.int .i64 (rd ba 1)))).cell? _ = some _ from bo)); clear hn163_0 hn163_1; replace p163 := eq_true p163; replace q163 := eq_true q163; have p164 : 0 ≤ (3 : Int) := (by omega); have q164 : 3 < (ba.length : Int) := of_decide_eq_true (by first | (with_reducible assumption) | assumption); obtain ⟨de, e164, bm⟩ := Kd.at_int (Kd.R_reads' bd.out).2.2 3 p164 q164; obtain rfl : bl = de := (by injection e164); (try simp only [show (3 : Int).toNat = 3 from rfl, Nat.reduceMul, Nat.reduceEqDiff, Go.Addr.add, ↓reduceIte] at bm); have qi164 : (3 < ba.length) = True := eq_true (by omega); (try rw [show ((3 : Int)).toNat = 3 from rfl] at bm); have hn164_0 : bl.block ≠ bf := Kd.own_blk (Kd.R_ne bd.out bb.out (by decide)); have hn164_1 : bl.block ≠ bf := Kd.own_blk (Kd.R_ne bd.out bb.out (by decide)); have hn164_2 : bl.block ≠ bf := Kd.own_blk (Kd.R_ne bd.out bb.out (by decide)); replace bm := (cell_far (p := ⟨bf, 1, none⟩) (by first | (rw [add_block]; exact hn164_0) | (show (Addr.add _ _).block ≠ _; rw [add_block]; exact hn164_0) | exact hn164_0) (.int .i64 (rd ba 0))).trans bm; replace bm := (cell_far (p := ⟨bf, 2, none⟩) (by first | (rw [add_block]; exact hn164_1) | (show (Addr.add _ _).block ≠ _; rw [add_block]; exact hn164_1) | exact hn164_1) (.int .i64 (rd ba 1))).trans bm; replace bm := (cell_far (p := ⟨bf, 3, none⟩) (by first | (rw [add_block]; exact hn164_2) | (show (Addr.add _ _).block ≠ _; rw [add_block]; exact hn164_2) | exact hn164_2) (.int .i64 (rd ba 2))).trans bm; (try have dM := fun (n_ : Nat) => (show (((((wr.drewN n_).setCell ⟨bf, 1, none⟩ (.int .i64 (rd ba 0))).setCell ⟨bf, 2, none⟩ (.int .i64 (rd ba 1))).setCell ⟨bf, 3, none⟩ (.int .i64 (rd ba 2)))).cell? _ = some _ from bm)); clear hn164_0 hn164_1 hn164_2; replace p164 := eq_true p164; replace q164 := eq_true q164; obtain ⟨gz, gA, gB, gC, gD⟩ := c5e bc; obtain ⟨gE, gF, gG, gH, gI⟩ := z5_ bc; go_wp2
            repeat (go_quiet (fail); try go_wp2)
            refine bodyPost_ret (results_ct rfl _ _ bE 23 #[.int .i64 0, .int .i64 0, .int .i64 0, .int .i64 0, .int .i64 0] (0, 0) _ rfl (p5 bc (k4_ bB.out (nb bc))) Tryd.underlying23 rfl (by kernel_rfl)) rfl ?_; exact ⟨er_, nbe HB⟩
           ·rw [if_neg c44] at H
            have c44b0 : (a0.toList == ([] : List UInt8)) = false := beq_eq_false_iff_ne.mpr c44; have c44b1 : (a0.toList != ([] : List UInt8)) = true := bne_iff_ne.mpr c44; replace H := Option.bind_eq_some_iff.mp H; obtain ⟨bz, A490, H⟩ := H; replace H : (if bz.toList = a0.toList then (some (bk, rd ba 0, rd ba 1, rd ba 2, rd ba 3, true)) else (some (0, 0, 0, 0, 0, false))) = some (r1, r2, r3, r4, r5, r6) := H; have A49 := Aside0.mk A490; clear A490
            by_cases c50 : bz.toList = a0.toList
            ·rw [if_pos c50] at H
             have c50b0 : (bz.toList == a0.toList) = true := beq_iff_eq.mpr c50; have c50b1 : (bz.toList != a0.toList) = false := bne_eq_false_iff_eq.mpr c50; clear c50; simp only [Option.some.injEq, Prod.mk.injEq] at H; obtain ⟨rfl, rfl, rfl, rfl, rfl, rfl⟩ := H; obtain ⟨gJ, gK, eR⟩ := Kd.R_slice bd.out; subst eR; have p161 : 0 ≤ (0 : Int) := (by omega); have q161 : 0 < (ba.length : Int) := of_decide_eq_true (by first | (with_reducible assumption) | assumption); obtain ⟨bl, e161, bS⟩ := Kd.at_int (Kd.R_reads' bd.out).2.2 0 p161 q161
             cases e161
             have qi161 : (0 < ba.length) = True := eq_true (by omega); (try rw [show ((0 : Int)).toNat = 0 from rfl] at bS); (try rw [Addr.add_zero'] at bS); replace p161 := eq_true p161; replace q161 := eq_true q161; have gL := bF.out; have gM := bB.out; obtain ⟨gN, gO, gP, gQ, gR⟩ := c5e bb; obtain ⟨gS, gT, gU, gV, gW⟩ := z5_ bb; have p162 : 0 ≤ (1 : Int) := (by omega); have q162 : 1 < (ba.length : Int) := of_decide_eq_true (by first | (with_reducible assumption) | assumption); obtain ⟨dc, e162, bw⟩ := Kd.at_int (Kd.R_reads' bd.out).2.2 1 p162 q162; obtain rfl : bl = dc := (by injection e162); (try simp only [show (1 : Int).toNat = 1 from rfl, Nat.reduceMul, Nat.reduceEqDiff, Go.Addr.add, ↓reduceIte] at bw); have qi162 : (1 < ba.length) = True := eq_true (by omega); (try rw [show ((1 : Int)).toNat = 1 from rfl] at bw); have hn162_0 : bl.block ≠ bf := Kd.own_blk (Kd.R_ne bd.out bb.out (by decide)); replace bw := (cell_far (p := ⟨bf, 1, none⟩) (by first | (rw [add_block]; exact hn162_0) | (show (Addr.add _ _).block ≠ _; rw [add_block]; exact hn162_0) | exact hn162_0) (.int .i64 (rd ba 0))).trans bw; (try have dK := fun (n_ : Nat) => (show (((wr.drewN n_).setCell ⟨bf, 1, none⟩ (.int .i64 (rd ba 0)))).cell? _ = some _ from bw)); clear hn162_0; replace p162 := eq_true p162; replace q162 := eq_true q162; have p163 : 0 ≤ (2 : Int) := (by omega); have q163 : 2 < (ba.length : Int) := of_decide_eq_true (by first | (with_reducible assumption) | assumption); obtain ⟨dd, e163, bo⟩ := Kd.at_int (Kd.R_reads' bd.out).2.2 2 p163 q163; obtain rfl : bl = dd := (by injection e163); (try simp only [show (2 : Int).toNat = 2 from rfl, Nat.reduceMul, Nat.reduceEqDiff, Go.Addr.add, ↓reduceIte] at bo); have qi163 : (2 < ba.length) = True := eq_true (by omega); (try rw [show ((2 : Int)).toNat = 2 from rfl] at bo); have hn163_0 : bl.block ≠ bf := Kd.own_blk (Kd.R_ne bd.out bb.out (by decide)); have hn163_1 : bl.block ≠ bf := Kd.own_blk (Kd.R_ne bd.out bb.out (by decide)); replace bo := (cell_far (p := ⟨bf, 1, none⟩) (by first | (rw [add_block]; exact hn163_0) | (show (Addr.add _ _).block ≠ _; rw [add_block]; exact hn163_0) | exact hn163_0) (.int .i64 (rd ba 0))).trans bo; replace bo := (cell_far (p := ⟨bf, 2, none⟩) (by first | (rw [add_block]; exact hn163_1) | (show (Addr.add _ _).block ≠ _; rw [add_block]; exact hn163_1) | exact hn163_1) (.int .i64 (rd ba 1))).trans bo; (try have dL := fun (n_ : Nat) => (show ((((wr.drewN n_).setCell ⟨bf, 1, none⟩ (.int .i64 (rd ba 0))).setCell ⟨bf, 2, none⟩ (.int .i64 (rd ba 1)))).cell? _ = some _ from bo)); clear hn163_0 hn163_1; replace p163 := eq_true p163; replace q163 := eq_true q163; have p164 : 0 ≤ (3 : Int) := (by omega); have q164 : 3 < (ba.length : Int) := of_decide_eq_true (by first | (with_reducible assumption) | assumption); obtain ⟨de, e164, bm⟩ := Kd.at_int (Kd.R_reads' bd.out).2.2 3 p164 q164; obtain rfl : bl = de := (by injection e164); (try simp only [show (3 : Int).toNat = 3 from rfl, Nat.reduceMul, Nat.reduceEqDiff, Go.Addr.add, ↓reduceIte] at bm); have qi164 : (3 < ba.length) = True := eq_true (by omega); (try rw [show ((3 : Int)).toNat = 3 from rfl] at bm); have hn164_0 : bl.block ≠ bf := Kd.own_blk (Kd.R_ne bd.out bb.out (by decide)); have hn164_1 : bl.block ≠ bf := Kd.own_blk (Kd.R_ne bd.out bb.out (by decide)); have hn164_2 : bl.block ≠ bf := Kd.own_blk (Kd.R_ne bd.out bb.out (by decide)); replace bm := (cell_far (p := ⟨bf, 1, none⟩) (by first | (rw [add_block]; exact hn164_0) | (show (Addr.add _ _).block ≠ _; rw [add_block]; exact hn164_0) | exact hn164_0) (.int .i64 (rd ba 0))).trans bm; replace bm := (cell_far (p := ⟨bf, 2, none⟩) (by first | (rw [add_block]; exact hn164_1) | (show (Addr.add _ _).block ≠ _; rw [add_block]; exact hn164_1) | exact hn164_1) (.int .i64 (rd ba 1))).trans bm; replace bm := (cell_far (p := ⟨bf, 3, none⟩) (by first | (rw [add_block]; exact hn164_2) | (show (Addr.add _ _).block ≠ _; rw [add_block]; exact hn164_2) | exact hn164_2) (.int .i64 (rd ba 2))).trans bm; (try have dM := fun (n_ : Nat) => (show (((((wr.drewN n_).setCell ⟨bf, 1, none⟩ (.int .i64 (rd ba 0))).setCell ⟨bf, 2, none⟩ (.int .i64 (rd ba 1))).setCell ⟨bf, 3, none⟩ (.int .i64 (rd ba 2)))).cell? _ = some _ from bm)); clear hn164_0 hn164_1 hn164_2; replace p164 := eq_true p164; replace q164 := eq_true q164
             go_wp2_with (first | (go_at_call 17; (with_reducible refine (spec_InsText.calls k2 bk (rd ba 0) (rd ba 1) (rd ba 2) (rd ba 3) bz _ A49.out).mono ?_); rintro e dN ⟨rfl, hb⟩; replace bg := Aside0.mk (Kd.R_below (by (with_reducible repeat (first | apply Kd.R_alloc | apply Kd.R_drewN | apply Kd.R_drew)); exact (f4 (Kd.R_types bg.out bb.out (by decide)))) hb); replace bd := Aside0.mk (Kd.R_below (by (with_reducible repeat (first | apply Kd.R_alloc | apply Kd.R_drewN | apply Kd.R_drew)); exact (f4 (Kd.R_types bd.out bb.out (by decide)))) hb); replace bc := nblk bc hb; replace bb := Aside0.mk (blk_below (g := bf) (o := .cells #[.int .i64 bk, .int .i64 (rd ba 0), .int .i64 (rd ba 1), .int .i64 (rd ba 2), .int .i64 (rd ba 3)] 23 (0, 0)) (qp bb) hb); replace HB := nbs HB hb; (try clear hb); obtain ⟨dO, dP, dQ, dR, dS⟩ := c5e bb; obtain ⟨dT, dU, dV, dW, dX⟩ := z5_ bb; obtain ⟨dY, dZ, d0, d1, d2⟩ := c5e bc; obtain ⟨d3, d4, d5, d6, d7⟩ := z5_ bc))
             repeat (go_quiet (first | (go_at_call 17; (with_reducible refine (spec_InsText.calls k2 bk (rd ba 0) (rd ba 1) (rd ba 2) (rd ba 3) bz _ A49.out).mono ?_); rintro e dN ⟨rfl, hb⟩; replace bg := Aside0.mk (Kd.R_below (by (with_reducible repeat (first | apply Kd.R_alloc | apply Kd.R_drewN | apply Kd.R_drew)); exact (f4 (Kd.R_types bg.out bb.out (by decide)))) hb); replace bd := Aside0.mk (Kd.R_below (by (with_reducible repeat (first | apply Kd.R_alloc | apply Kd.R_drewN | apply Kd.R_drew)); exact (f4 (Kd.R_types bd.out bb.out (by decide)))) hb); replace bc := nblk bc hb; replace bb := Aside0.mk (blk_below (g := bf) (o := .cells #[.int .i64 bk, .int .i64 (rd ba 0), .int .i64 (rd ba 1), .int .i64 (rd ba 2), .int .i64 (rd ba 3)] 23 (0, 0)) (qp bb) hb); replace HB := nbs HB hb; (try clear hb); obtain ⟨dO, dP, dQ, dR, dS⟩ := c5e bb; obtain ⟨dT, dU, dV, dW, dX⟩ := z5_ bb; obtain ⟨dY, dZ, d0, d1, d2⟩ := c5e bc; obtain ⟨d3, d4, d5, d6, d7⟩ := z5_ bc)); try go_wp2_with (first | (go_at_call 17; (with_reducible refine (spec_InsText.calls k2 bk (rd ba 0) (rd ba 1) (rd ba 2) (rd ba 3) bz _ A49.out).mono ?_); rintro e dN ⟨rfl, hb⟩; replace bg := Aside0.mk (Kd.R_below (by (with_reducible repeat (first | apply Kd.R_alloc | apply Kd.R_drewN | apply Kd.R_drew)); exact (f4 (Kd.R_types bg.out bb.out (by decide)))) hb); replace bd := Aside0.mk (Kd.R_below (by (with_reducible repeat (first | apply Kd.R_alloc | apply Kd.R_drewN | apply Kd.R_drew)); exact (f4 (Kd.R_types bd.out bb.out (by decide)))) hb); replace bc := nblk bc hb; replace bb := Aside0.mk (blk_below (g := bf) (o := .cells #[.int .i64 bk, .int .i64 (rd ba 0), .int .i64 (rd ba 1), .int .i64 (rd ba 2), .int .i64 (rd ba 3)] 23 (0, 0)) (qp bb) hb); replace HB := nbs HB hb; (try clear hb); obtain ⟨dO, dP, dQ, dR, dS⟩ := c5e bb; obtain ⟨dT, dU, dV, dW, dX⟩ := z5_ bb; obtain ⟨dY, dZ, d0, d1, d2⟩ := c5e bc; obtain ⟨d3, d4, d5, d6, d7⟩ := z5_ bc)))
             refine bodyPost_ret (results_ct rfl _ _ bE 23 #[.int .i64 bk, .int .i64 (rd ba 0), .int .i64 (rd ba 1), .int .i64 (rd ba 2), .int .i64 (rd ba 3)] (0, 0) _ rfl (q5 bc) Tryd.underlying23 rfl (by kernel_rfl)) rfl ?_; exact ⟨er_, nbe HB⟩
            ·rw [if_neg c50] at H
             have c50b0 : (bz.toList == a0.toList) = false := beq_eq_false_iff_ne.mpr c50; have c50b1 : (bz.toList != a0.toList) = true := bne_iff_ne.mpr c50; simp only [Option.some.injEq, Prod.mk.injEq] at H; obtain ⟨rfl, rfl, rfl, rfl, rfl, rfl⟩ := H; obtain ⟨gX, gY, eS⟩ := Kd.R_slice bd.out; subst eS; have p161 : 0 ≤ (0 : Int) := (by omega); have q161 : 0 < (ba.length : Int) := of_decide_eq_true (by first | (with_reducible assumption) | assumption); obtain ⟨bl, e161, bS⟩ := Kd.at_int (Kd.R_reads' bd.out).2.2 0 p161 q161
             cases e161
             have qi161 : (0 < ba.length) = True := eq_true (by omega); (try rw [show ((0 : Int)).toNat = 0 from rfl] at bS); (try rw [Addr.add_zero'] at bS); replace p161 := eq_true p161; replace q161 := eq_true q161; have gZ := bF.out; have g0 := bB.out; obtain ⟨g1, g2, g3, g4, g5⟩ := c5e bb; obtain ⟨g6, g7, g8, g9, ha⟩ := z5_ bb; have p162 : 0 ≤ (1 : Int) := (by omega); have q162 : 1 < (ba.length : Int) := of_decide_eq_true (by first | (with_reducible assumption) | assumption); obtain ⟨dc, e162, bw⟩ := Kd.at_int (Kd.R_reads' bd.out).2.2 1 p162 q162; obtain rfl : bl = dc := (by injection e162); (try simp only [show (1 : Int).toNat = 1 from rfl, Nat.reduceMul, Nat.reduceEqDiff, Go.Addr.add, ↓reduceIte] at bw); have qi162 : (1 < ba.length) = True := eq_true (by omega); (try rw [show ((1 : Int)).toNat = 1 from rfl] at bw); have hn162_0 : bl.block ≠ bf := Kd.own_blk (Kd.R_ne bd.out bb.out (by decide)); replace bw := (cell_far (p := ⟨bf, 1, none⟩) (by first | (rw [add_block]; exact hn162_0) | (show (Addr.add _ _).block ≠ _; rw [add_block]; exact hn162_0) | exact hn162_0) (.int .i64 (rd ba 0))).trans bw; (try have dK := fun (n_ : Nat) => (show (((wr.drewN n_).setCell ⟨bf, 1, none⟩ (.int .i64 (rd ba 0)))).cell? _ = some _ from bw)); clear hn162_0; replace p162 := eq_true p162; replace q162 := eq_true q162; have p163 : 0 ≤ (2 : Int) := (by omega); have q163 : 2 < (ba.length : Int) := of_decide_eq_true (by first | (with_reducible assumption) | assumption); obtain ⟨dd, e163, bo⟩ := Kd.at_int (Kd.R_reads' bd.out).2.2 2 p163 q163; obtain rfl : bl = dd := (by injection e163); (try simp only [show (2 : Int).toNat = 2 from rfl, Nat.reduceMul, Nat.reduceEqDiff, Go.Addr.add, ↓reduceIte] at bo); have qi163 : (2 < ba.length) = True := eq_true (by omega); (try rw [show ((2 : Int)).toNat = 2 from rfl] at bo); have hn163_0 : bl.block ≠ bf := Kd.own_blk (Kd.R_ne bd.out bb.out (by decide)); have hn163_1 : bl.block ≠ bf := Kd.own_blk (Kd.R_ne bd.out bb.out (by decide)); replace bo := (cell_far (p := ⟨bf, 1, none⟩) (by first | (rw [add_block]; exact hn163_0) | (show (Addr.add _ _).block ≠ _; rw [add_block]; exact hn163_0) | exact hn163_0) (.int .i64 (rd ba 0))).trans bo; replace bo := (cell_far (p := ⟨bf, 2, none⟩) (by first | (rw [add_block]; exact hn163_1) | (show (Addr.add _ _).block ≠ _; rw [add_block]; exact hn163_1) | exact hn163_1) (.int .i64 (rd ba 1))).trans bo; (try have dL := fun (n_ : Nat) => (show ((((wr.drewN n_).setCell ⟨bf, 1, none⟩ (.int .i64 (rd ba 0))).setCell ⟨bf, 2, none⟩ (.int .i64 (rd ba 1)))).cell? _ = some _ from bo)); clear hn163_0 hn163_1; replace p163 := eq_true p163; replace q163 := eq_true q163; have p164 : 0 ≤ (3 : Int) := (by omega); have q164 : 3 < (ba.length : Int) := of_decide_eq_true (by first | (with_reducible assumption) | assumption); obtain ⟨de, e164, bm⟩ := Kd.at_int (Kd.R_reads' bd.out).2.2 3 p164 q164; obtain rfl : bl = de := (by injection e164); (try simp only [show (3 : Int).toNat = 3 from rfl, Nat.reduceMul, Nat.reduceEqDiff, Go.Addr.add, ↓reduceIte] at bm); have qi164 : (3 < ba.length) = True := eq_true (by omega); (try rw [show ((3 : Int)).toNat = 3 from rfl] at bm); have hn164_0 : bl.block ≠ bf := Kd.own_blk (Kd.R_ne bd.out bb.out (by decide)); have hn164_1 : bl.block ≠ bf := Kd.own_blk (Kd.R_ne bd.out bb.out (by decide)); have hn164_2 : bl.block ≠ bf := Kd.own_blk (Kd.R_ne bd.out bb.out (by decide)); replace bm := (cell_far (p := ⟨bf, 1, none⟩) (by first | (rw [add_block]; exact hn164_0) | (show (Addr.add _ _).block ≠ _; rw [add_block]; exact hn164_0) | exact hn164_0) (.int .i64 (rd ba 0))).trans bm; replace bm := (cell_far (p := ⟨bf, 2, none⟩) (by first | (rw [add_block]; exact hn164_1) | (show (Addr.add _ _).block ≠ _; rw [add_block]; exact hn164_1) | exact hn164_1) (.int .i64 (rd ba 1))).trans bm; replace bm := (cell_far (p := ⟨bf, 3, none⟩) (by first | (rw [add_block]; exact hn164_2) | (show (Addr.add _ _).block ≠ _; rw [add_block]; exact hn164_2) | exact hn164_2) (.int .i64 (rd ba 2))).trans bm; (try have dM := fun (n_ : Nat) => (show (((((wr.drewN n_).setCell ⟨bf, 1, none⟩ (.int .i64 (rd ba 0))).setCell ⟨bf, 2, none⟩ (.int .i64 (rd ba 1))).setCell ⟨bf, 3, none⟩ (.int .i64 (rd ba 2)))).cell? _ = some _ from bm)); clear hn164_0 hn164_1 hn164_2; replace p164 := eq_true p164; replace q164 := eq_true q164
             go_wp2_with (first | (go_at_call 17; (with_reducible refine (spec_InsText.calls k2 bk (rd ba 0) (rd ba 1) (rd ba 2) (rd ba 3) bz _ A49.out).mono ?_); rintro e d8 ⟨rfl, hb⟩; replace bg := Aside0.mk (Kd.R_below (by (with_reducible repeat (first | apply Kd.R_alloc | apply Kd.R_drewN | apply Kd.R_drew)); exact (f4 (Kd.R_types bg.out bb.out (by decide)))) hb); replace bd := Aside0.mk (Kd.R_below (by (with_reducible repeat (first | apply Kd.R_alloc | apply Kd.R_drewN | apply Kd.R_drew)); exact (f4 (Kd.R_types bd.out bb.out (by decide)))) hb); replace bc := nblk bc hb; replace bb := Aside0.mk (blk_below (g := bf) (o := .cells #[.int .i64 bk, .int .i64 (rd ba 0), .int .i64 (rd ba 1), .int .i64 (rd ba 2), .int .i64 (rd ba 3)] 23 (0, 0)) (qp bb) hb); replace HB := nbs HB hb; (try clear hb); obtain ⟨d9, ea, eb, ec, ed⟩ := c5e bc; obtain ⟨ee, ef, eg, eh, ei⟩ := z5_ bc))
             repeat (go_quiet (first | (go_at_call 17; (with_reducible refine (spec_InsText.calls k2 bk (rd ba 0) (rd ba 1) (rd ba 2) (rd ba 3) bz _ A49.out).mono ?_); rintro e d8 ⟨rfl, hb⟩; replace bg := Aside0.mk (Kd.R_below (by (with_reducible repeat (first | apply Kd.R_alloc | apply Kd.R_drewN | apply Kd.R_drew)); exact (f4 (Kd.R_types bg.out bb.out (by decide)))) hb); replace bd := Aside0.mk (Kd.R_below (by (with_reducible repeat (first | apply Kd.R_alloc | apply Kd.R_drewN | apply Kd.R_drew)); exact (f4 (Kd.R_types bd.out bb.out (by decide)))) hb); replace bc := nblk bc hb; replace bb := Aside0.mk (blk_below (g := bf) (o := .cells #[.int .i64 bk, .int .i64 (rd ba 0), .int .i64 (rd ba 1), .int .i64 (rd ba 2), .int .i64 (rd ba 3)] 23 (0, 0)) (qp bb) hb); replace HB := nbs HB hb; (try clear hb); obtain ⟨d9, ea, eb, ec, ed⟩ := c5e bc; obtain ⟨ee, ef, eg, eh, ei⟩ := z5_ bc)); try go_wp2_with (first | (go_at_call 17; (with_reducible refine (spec_InsText.calls k2 bk (rd ba 0) (rd ba 1) (rd ba 2) (rd ba 3) bz _ A49.out).mono ?_); rintro e d8 ⟨rfl, hb⟩; replace bg := Aside0.mk (Kd.R_below (by (with_reducible repeat (first | apply Kd.R_alloc | apply Kd.R_drewN | apply Kd.R_drew)); exact (f4 (Kd.R_types bg.out bb.out (by decide)))) hb); replace bd := Aside0.mk (Kd.R_below (by (with_reducible repeat (first | apply Kd.R_alloc | apply Kd.R_drewN | apply Kd.R_drew)); exact (f4 (Kd.R_types bd.out bb.out (by decide)))) hb); replace bc := nblk bc hb; replace bb := Aside0.mk (blk_below (g := bf) (o := .cells #[.int .i64 bk, .int .i64 (rd ba 0), .int .i64 (rd ba 1), .int .i64 (rd ba 2), .int .i64 (rd ba 3)] 23 (0, 0)) (qp bb) hb); replace HB := nbs HB hb; (try clear hb); obtain ⟨d9, ea, eb, ec, ed⟩ := c5e bc; obtain ⟨ee, ef, eg, eh, ei⟩ := z5_ bc)))
             refine bodyPost_ret (results_ct rfl _ _ bE 23 #[.int .i64 0, .int .i64 0, .int .i64 0, .int .i64 0, .int .i64 0] (0, 0) _ rfl (q5 bc) Tryd.underlying23 rfl (by kernel_rfl)) rfl ?_; exact ⟨er_, nbe HB⟩
          ·rw [if_neg c43] at H
           exact absurd H (by simp)
         ·rw [if_neg c42] at H
          exact absurd H (by simp)
        ·rw [if_neg c41] at H
         exact absurd H (by simp)
       ·rw [if_neg c40] at H
        exact absurd H (by simp)

/-! ### spec_CodeOk: function 38 -/
def spec_CodeOk.l0 : Nat → List (S23) → Int → Option (Bool)
 | 0, _, _ => none
 | k + 1, x0, x3 => if x3 < (x0.length : Int) then (if 0 ≤ x3 then ((spec_InsOk.f ((rd_T23 x0 x3).f0) ((rd_T23 x0 x3).f1) ((rd_T23 x0 x3).f2) ((rd_T23 x0 x3).f3) ((rd_T23 x0 x3).f4)).bind fun ds => (if ds = true then (spec_CodeOk.l0 k x0 (wrap64 (x3 + 1))) else (some false))) else (none)) else ((spec_l1In.f (x0.length : Int) 1 48).bind fun dt => (some dt))
def spec_CodeOk.f (k : Nat) (l0 : List (S23)) : Option (Bool) := spec_CodeOk.l0 k l0 0
theorem spec_CodeOk.mono_l : ∀ k, (∀ y0 y1, LeO (spec_CodeOk.l0 k y0 y1) (spec_CodeOk.l0 (k + 1) y0 y1))
 | 0 => fun _ _ r h => by simp [spec_CodeOk.l0] at h
 | k + 1 => by
  have ih0 := spec_CodeOk.mono_l k
  ·intro y0 y1
   unfold spec_CodeOk.l0
   repeat' first
   | (with_reducible exact ih0 _ _)
   | (with_reducible exact LeO.refl _)
   | (with_reducible exact LeO.none _)
   | (with_reducible refine LeO.ite ?_ ?_)
   | (with_reducible refine LeO.bind ?_ (fun _ => ?_))
   | exact ih0 _ _
   | exact LeO.none _
   | refine LeO.ite ?_ ?_
   | refine LeO.bind ?_ (fun _ => ?_)
theorem spec_CodeOk.mono : ∀ a0 k, LeO (spec_CodeOk.f k a0) (spec_CodeOk.f (k + 1) a0) := by
 intro a0 k; have ih0 := spec_CodeOk.mono_l k
 unfold spec_CodeOk.f
 repeat' first
   | (with_reducible exact ih0 _ _)
   | (with_reducible exact LeO.refl _)
   | (with_reducible exact LeO.none _)
   | (with_reducible refine LeO.ite ?_ ?_)
   | (with_reducible refine LeO.bind ?_ (fun _ => ?_))
   | exact ih0 _ _
   | exact LeO.none _
   | refine LeO.ite ?_ ?_
   | refine LeO.bind ?_ (fun _ => ?_)
set_option maxHeartbeats 8000000 in
set_option maxRecDepth 100000 in
theorem spec_CodeOk.calls (k : Nat) (A0 : Option Addr) (c0 : Nat) (l0 : List (S23)) (r : Bool) (w : World) (hr0 : Kd.C k23 w A0 l0.length l0) (hc0 : l0.length ≤ c0) (h : spec_CodeOk.f k l0 = some r) :
  Calls Tryd.prog 38 #[.slice A0 l0.length c0] w fun e w' => e = .returned (.bool r) ∧ Below w.heap.size w w' := by
 have hu23 := Tryd.underlying23; have ej := Aside0.mk hr0; have hc := Aside0.mk hc0; clear hr0 hc0; have HB := Aside0.mk (Below.refl w.heap.size w); have H : (spec_CodeOk.l0 k l0 0) = some r := h; clear h; have H' := Aside0.mk H; clear H
 go_enter Tryd.func38, Tryd.ntmps38
 go_wp2
 go_loopg [3] k (fun kq v3 w' => ∃ (bj : Int), v3 = .int .i64 bj ∧ Aside0 (spec_CodeOk.l0 kq l0 bj = some r) ∧ Aside0 (kq ≤ k) ∧ Aside0 (Below w.heap.size w w'))
 case atStart => exact ⟨(0), (by first | rfl | (simp; done) | (simp [*]; done)), H', ⟨Nat.le_refl _⟩, ⟨nbe HB⟩⟩
 case round =>
  clear H'; obtain ⟨bj, rfl, HA, bC, HB⟩ := hrel
  cases gk with
  | zero => exact absurd HA.out (by simp [spec_CodeOk.l0])
  | succ k1 =>
   have H := HA.out; clear HA; simp only [spec_CodeOk.l0] at H
   by_cases c2 : bj < (l0.length : Int)
   ·rw [if_pos c2] at H
    have c2b0 : decide (bj < (l0.length : Int)) = true := decide_eq_true c2; clear c2
    by_cases c3 : 0 ≤ bj
    ·rw [if_pos c3] at H
     have c3b0 : decide (0 ≤ bj) = true := decide_eq_true c3; clear c3; replace H := Option.bind_eq_some_iff.mp H; obtain ⟨ds, A40, H⟩ := H; replace H : (if ds = true then (spec_CodeOk.l0 k1 l0 (wrap64 (bj + 1))) else (some false)) = some r := H; have A4 := Aside0.mk A40; clear A40
     by_cases c5 : ds = true
     ·subst c5
      have H1 : (spec_CodeOk.l0 k1 l0 (wrap64 (bj + 1))) = some r := by rw [if_pos rfl] at H; exact H
      clear H; have H := H1; clear H1; have H' := Aside0.mk H; clear H; have p166 : 0 ≤ (bj : Int) := of_decide_eq_true (by first | (with_reducible assumption) | assumption); have q166 : bj < (l0.length : Int) := of_decide_eq_true (by first | (with_reducible assumption) | assumption); obtain ⟨eT, e166, bX, bY, bZ, b0, b1⟩ := at_T23 ej.out bj p166 q166
      cases e166
      replace bX := (HB.out.cell (World.block_lt_of_cell? w _ bX)).trans bX; replace bY := (HB.out.cell (World.block_lt_of_cell? w _ bY)).trans bY; replace bZ := (HB.out.cell (World.block_lt_of_cell? w _ bZ)).trans bZ; replace b0 := (HB.out.cell (World.block_lt_of_cell? w _ b0)).trans b0; replace b1 := (HB.out.cell (World.block_lt_of_cell? w _ b1)).trans b1; replace p166 := eq_true p166; replace q166 := eq_true q166
      go_wp2_with (first | ((with_reducible refine gate_callee (f := 29) rfl ?_); refine goesM (some 14) rfl rfl Tryd.func29 (by kernel_rfl) rfl #[.agg #[.int .i64 ((rd_T23 l0 bj).f0), .int .i64 ((rd_T23 l0 bj).f1), .int .i64 ((rd_T23 l0 bj).f2), .int .i64 ((rd_T23 l0 bj).f3), .int .i64 ((rd_T23 l0 bj).f4)]] rfl ?_; (with_reducible refine (spec_InsOk.calls ((rd_T23 l0 bj).f0) ((rd_T23 l0 bj).f1) ((rd_T23 l0 bj).f2) ((rd_T23 l0 bj).f3) ((rd_T23 l0 bj).f4) true _ A4.out).mono ?_); rintro e w6 ⟨rfl, hb⟩; refine ⟨_, rfl, ?_⟩; replace HB := nbs HB hb; (try clear hb)))
      go_roundg k1
      case measure => have := bC.out; omega
      case rel => exact ⟨(wrap64 (bj + 1)), (by first | rfl | (simp; done) | (simp [*]; done)), H', ⟨by have := bC.out; omega⟩, ⟨nbe HB⟩⟩
     ·replace c5 := Bool.eq_false_iff.mpr c5
      subst c5; have H1 : (some false) = some r := by rw [if_neg (show ¬ (false = true) by decide)] at H; exact H
      clear H; have H := H1; clear H1; obtain rfl := Option.some.inj H; have p166 : 0 ≤ (bj : Int) := of_decide_eq_true (by first | (with_reducible assumption) | assumption); have q166 : bj < (l0.length : Int) := of_decide_eq_true (by first | (with_reducible assumption) | assumption); obtain ⟨eT, e166, bX, bY, bZ, b0, b1⟩ := at_T23 ej.out bj p166 q166
      cases e166
      replace bX := (HB.out.cell (World.block_lt_of_cell? w _ bX)).trans bX; replace bY := (HB.out.cell (World.block_lt_of_cell? w _ bY)).trans bY; replace bZ := (HB.out.cell (World.block_lt_of_cell? w _ bZ)).trans bZ; replace b0 := (HB.out.cell (World.block_lt_of_cell? w _ b0)).trans b0; replace b1 := (HB.out.cell (World.block_lt_of_cell? w _ b1)).trans b1; replace p166 := eq_true p166; replace q166 := eq_true q166
      go_wp2_with (first | ((with_reducible refine gate_callee (f := 29) rfl ?_); refine goesM (some 14) rfl rfl Tryd.func29 (by kernel_rfl) rfl #[.agg #[.int .i64 ((rd_T23 l0 bj).f0), .int .i64 ((rd_T23 l0 bj).f1), .int .i64 ((rd_T23 l0 bj).f2), .int .i64 ((rd_T23 l0 bj).f3), .int .i64 ((rd_T23 l0 bj).f4)]] rfl ?_; (with_reducible refine (spec_InsOk.calls ((rd_T23 l0 bj).f0) ((rd_T23 l0 bj).f1) ((rd_T23 l0 bj).f2) ((rd_T23 l0 bj).f3) ((rd_T23 l0 bj).f4) false _ A4.out).mono ?_); rintro e w7 ⟨rfl, hb⟩; refine ⟨_, rfl, ?_⟩; replace HB := nbs HB hb; (try clear hb)))
      go_ret
      exact ⟨er_, nbe HB⟩
    ·rw [if_neg c3] at H
     exact absurd H (by simp)
   ·rw [if_neg c2] at H
    have c2b0 : decide (bj < (l0.length : Int)) = false := decide_eq_false c2; clear c2; replace H := Option.bind_eq_some_iff.mp H; obtain ⟨dt, A80, H⟩ := H; replace H : (some dt) = some r := H; have A8 := Aside0.mk A80; clear A80; obtain rfl := Option.some.inj H
    go_wp2_with (first | ((with_reducible refine gate_callee (f := 28) rfl ?_); refine goesM (some 18) rfl rfl Tryd.func28 (by kernel_rfl) rfl #[.int .i64 (l0.length : Int), .int .i64 1, .int .i64 48] rfl ?_; (with_reducible refine (spec_l1In.calls (l0.length : Int) 1 48 dt _ A8.out).mono ?_); rintro e w' ⟨rfl, ⟨nd, rfl⟩⟩; refine ⟨_, rfl, ?_⟩))
    go_ret
    exact ⟨er_, nbe HB⟩

end Go.Proofs.YtdbffjaolbkedaaDoor.PFnExactCodeRead
