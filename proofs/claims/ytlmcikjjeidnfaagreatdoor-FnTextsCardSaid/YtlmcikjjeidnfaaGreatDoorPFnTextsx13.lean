-- Written by a program of this session (wip/patch.py turns a copy of the kit's print): the functions that the law reaches, and their walks.
import Derived.Test.YtlmcikjjeidnfaaGreatDoorPFnTextsx0
import Derived.Test.YtlmcikjjeidnfaaGreatDoorPFnTextsx10
import Derived.Test.YtlmcikjjeidnfaaGreatDoorPFnTextsx12
import Derived.Test.YtlmcikjjeidnfaaGreatDoorCFnTexts
namespace Go.Proofs.YtlmcikjjeidnfaaGreatDoor.PFnTexts
open Go.RowKit Go.Proofs.YtlmcikjjeidnfaaGreatDoorW.PrintWords Go.Proofs.YtlmcikjjeidnfaaGreatDoorW.PrintLast Go.Proofs.YtlmcikjjeidnfaaGreatDoorW.PrintMore Go.Proofs.YtlmcikjjeidnfaaGreatDoorW.Mine
attribute [local go_sem] max2_int min2_int max_two min_two max_three min_three max_four min_four   -- for this text's walks alone
set_option linter.unusedVariables false
set_option linter.unusedSimpArgs false

/-! ### spec_CodeRead: function 19 -/
def spec_CodeRead.l0 : Nat → ByteArray → List (S25) → Int → Int → Option ((List (S25)) × Bool)
 | 0, _, _, _, _ => none
 | k + 1, x0, x4, x5, x6 => if x6 < (x0.size : Int) then (if 0 ≤ x6 then (if (bt x0 x6) = 10 then (if 0 ≤ x5 then (if x5 ≤ x6 then (if x6 ≤ (x0.size : Int) then ((spec_InsRead.f k (x0.extract (x5 : Int).toNat (x6 : Int).toNat)).bind fun bn => (if bn.2.2.2.2.2 = true then (if x4.length < 3518437208883 then (spec_CodeRead.l0 k x0 (x4 ++ [(⟨bn.1, bn.2.1, bn.2.2.1, bn.2.2.2.1, bn.2.2.2.2.1⟩ : S25)]) (wrap64 (x6 + 1)) (wrap64 (x6 + 1))) else (none)) else (some ((([] : List (S25))), false)))) else (none)) else (none)) else (none)) else (spec_CodeRead.l0 k x0 x4 x5 (wrap64 (x6 + 1)))) else (none)) else (if x0.toList = ([] : List UInt8) then (some ((([] : List (S25))), false)) else ((spec_CodeText.f k x4).bind fun bm => (if bm.toList = x0.toList then (some (x4, true)) else (some ((([] : List (S25))), false)))))
def spec_CodeRead.f (k : Nat) (a0 : ByteArray) : Option ((List (S25)) × Bool) := spec_CodeRead.l0 k a0 (([] : List (S25))) 0 0
theorem spec_CodeRead.mono_l : ∀ k, (∀ y0 y1 y2 y3, LeO (spec_CodeRead.l0 k y0 y1 y2 y3) (spec_CodeRead.l0 (k + 1) y0 y1 y2 y3))
 | 0 => fun _ _ _ _ r h => by simp [spec_CodeRead.l0] at h
 | k + 1 => by
  have ih0 := spec_CodeRead.mono_l k
  ·intro y0 y1 y2 y3
   unfold spec_CodeRead.l0
   repeat' first
   | (with_reducible exact ih0 _ _ _ _)
   | (with_reducible exact spec_CodeText.mono _ _)
   | (with_reducible exact spec_InsRead.mono _ _)
   | (with_reducible exact LeO.refl _)
   | (with_reducible exact LeO.none _)
   | (with_reducible refine LeO.ite ?_ ?_)
   | (with_reducible refine LeO.bind ?_ (fun _ => ?_))
   | exact ih0 _ _ _ _
   | exact spec_CodeText.mono _ _
   | exact spec_InsRead.mono _ _
   | exact LeO.none _
   | refine LeO.ite ?_ ?_
   | refine LeO.bind ?_ (fun _ => ?_)
theorem spec_CodeRead.mono : ∀ a0 k, LeO (spec_CodeRead.f k a0) (spec_CodeRead.f (k + 1) a0) := by
 intro a0 k; have ih0 := spec_CodeRead.mono_l k
 unfold spec_CodeRead.f
 repeat' first
   | (with_reducible exact ih0 _ _ _ _)
   | (with_reducible exact spec_CodeText.mono _ _)
   | (with_reducible exact spec_InsRead.mono _ _)
   | (with_reducible exact LeO.refl _)
   | (with_reducible exact LeO.none _)
   | (with_reducible refine LeO.ite ?_ ?_)
   | (with_reducible refine LeO.bind ?_ (fun _ => ?_))
   | exact ih0 _ _ _ _
   | exact spec_CodeText.mono _ _
   | exact spec_InsRead.mono _ _
   | exact LeO.none _
   | refine LeO.ite ?_ ?_
   | refine LeO.bind ?_ (fun _ => ?_)
set_option maxHeartbeats 8000000 in
set_option maxRecDepth 100000 in
theorem spec_CodeRead.calls (k : Nat) (a0 : ByteArray) (r1 : List (S25)) (r2 : Bool) (w : World) (h : spec_CodeRead.f k a0 = some (r1, r2)) :
  Calls Tryz.prog 19 #[.string a0] w fun e w' => ∃ v0_ : Value, e = .returned (.tuple #[v0_, .bool r2]) ∧ Kd.R k25 25 w' w.heap.size (fun _ => True) v0_ r1 ∧ Below w.heap.size w w' := by
 have hu25 := Tryz.underlying25; have HB := Aside0.mk (Below.refl w.heap.size w); have H : (spec_CodeRead.l0 k a0 (([] : List (S25))) 0 0) = some (r1, r2) := h; clear h; obtain ⟨bA, br⟩ : ∃ y_ : List (S25), y_ = (([] : List (S25))) := ⟨_, rfl⟩; replace H : (spec_CodeRead.l0 k a0 bA 0 0) = some (r1, r2) := by first | (rw [br]; with_reducible exact H) | (have H2_ := (Option.bind_some _ _).symm.trans H; rw [br]; with_reducible exact H2_) | (have H2_ := (Option.bind_some _ _).symm.trans H; with_reducible exact H2_) | with_reducible exact H | (rw [br]; exact H) | exact H
 have bB := Aside0.mk br; clear br; have H' := Aside0.mk H; clear H
 go_enter Tryz.func19, Tryz.ntmps19
 go_wp2_with (first | ((with_reducible refine gate_dst (N := 9) rfl ?_); refine Kd.R_lit k25 _ 25 ?hg (N := 9) ?hd (xs := ([] : List (S25))) (inner := []) (ok := fun _ => True) (okp := fun _ => True) ?hr ?hp (fun _ hk => hk) trivial (Below.refl _ _) (Nat.le_refl _) (by simp) ?_; (case hd => rfl); (case hg => rfl); (case hr => first | (go_simp; done) | (go_simp; rfl)); (case hp => exact (Reps.none _ _)); intro bW w2 bs hb hg_ hnew_; clear hg_ hnew_; (first | rw [← bB.out] at bs | (simp only [Int.reduceToNat] at bs; rw [← bB.out] at bs)); have bI := Aside0.mk (Kd.R_lower bs (bsz HB)); replace HB := nbs HB hb; clear hb bs))
 go_loopg [4, 5, 6] k (fun kq v4 v5 v6 w' => ∃ (bc : List (S25)) (bd : Int) (ba : Int), v5 = .int .i64 bd ∧ v6 = .int .i64 ba ∧ Aside0 (spec_CodeRead.l0 kq a0 bc bd ba = some (r1, r2)) ∧ Aside0 (kq ≤ k) ∧ Aside0 (Kd.R k25 25 w' w.heap.size (fun _ => True) v4 bc) ∧ Aside0 (Below w.heap.size w w'))
 case atStart => exact ⟨(bA), (0), (0), (by first | rfl | (simp; done) | (simp [*]; done)), (by first | rfl | (simp; done) | (simp [*]; done)), H', ⟨Nat.le_refl _⟩, ⟨by (with_reducible repeat (first | apply Kd.R_alloc | apply Kd.R_drewN | apply Kd.R_drew)); exact bI.out⟩, ⟨nbe HB⟩⟩
 case round =>
  clear H'; try clear c1
  try clear p2
  obtain ⟨bc, bd, ba, rfl, rfl, HA, bz, bb, HB⟩ := hrel
  cases gk with
  | zero => exact absurd HA.out (by simp [spec_CodeRead.l0])
  | succ k1 =>
   have H := HA.out; clear HA; simp only [spec_CodeRead.l0] at H
   by_cases c4 : ba < (a0.size : Int)
   ·rw [if_pos c4] at H
    have c4b0 : decide (ba < (a0.size : Int)) = true := decide_eq_true c4; clear c4
    by_cases c5 : 0 ≤ ba
    ·rw [if_pos c5] at H
     have c5b0 : decide (0 ≤ ba) = true := decide_eq_true c5; clear c5
     by_cases c7 : (bt a0 ba) = 10
     ·rw [if_pos c7] at H
      have c7b0 : ((bt a0 ba) == 10) = true := beq_iff_eq.mpr c7; have c7b1 : ((bt a0 ba) != 10) = false := bne_eq_false_iff_eq.mpr c7; clear c7
      by_cases c8 : 0 ≤ bd
      ·rw [if_pos c8] at H
       have c8b0 := eq_true c8; have c8b1 : decide (0 ≤ bd) = true := decide_eq_true c8; clear c8
       by_cases c9 : bd ≤ ba
       ·rw [if_pos c9] at H
        have c9b0 := eq_true c9; have c9b1 : decide (bd ≤ ba) = true := decide_eq_true c9; clear c9
        by_cases c10 : ba ≤ (a0.size : Int)
        ·rw [if_pos c10] at H
         have c10b0 := eq_true c10; have c10b1 : decide (ba ≤ (a0.size : Int)) = true := decide_eq_true c10; clear c10; replace H := Option.bind_eq_some_iff.mp H; obtain ⟨⟨bf, bg, bh, bi, bj, bC⟩, A110, H⟩ := H; replace H : (if bC = true then (if bc.length < 3518437208883 then (spec_CodeRead.l0 k1 a0 (bc ++ [(⟨bf, bg, bh, bi, bj⟩ : S25)]) (wrap64 (ba + 1)) (wrap64 (ba + 1))) else (none)) else (some ((([] : List (S25))), false))) = some (r1, r2) := H; have A11 := Aside0.mk A110; clear A110
         by_cases c12 : bC = true
         ·subst c12
          have H1 : (if bc.length < 3518437208883 then (spec_CodeRead.l0 k1 a0 (bc ++ [(⟨bf, bg, bh, bi, bj⟩ : S25)]) (wrap64 (ba + 1)) (wrap64 (ba + 1))) else (none)) = some (r1, r2) := by rw [if_pos rfl] at H; exact H
          clear H; have H := H1; clear H1
          by_cases c13 : bc.length < 3518437208883
          ·rw [if_pos c13] at H
           have bJ := Aside0.mk c13; clear c13; obtain ⟨bD, bu⟩ : ∃ y_ : List (S25), y_ = (bc ++ [(⟨bf, bg, bh, bi, bj⟩ : S25)]) := ⟨_, rfl⟩; replace H : (spec_CodeRead.l0 k1 a0 bD (wrap64 (ba + 1)) (wrap64 (ba + 1))) = some (r1, r2) := by first | (rw [bu]; with_reducible exact H) | (have H2_ := (Option.bind_some _ _).symm.trans H; rw [bu]; with_reducible exact H2_) | (have H2_ := (Option.bind_some _ _).symm.trans H; with_reducible exact H2_) | with_reducible exact H | (rw [bu]; exact H) | exact H
           have bK := Aside0.mk bu; clear bu; have H' := Aside0.mk H; clear H; have p6 : 0 ≤ (ba : Int) := of_decide_eq_true (by first | (with_reducible assumption) | assumption); have q6 : ba < (a0.size : Int) := of_decide_eq_true (by first | (with_reducible assumption) | assumption); have bE := bt_at a0 ba; replace p6 := eq_true p6; replace q6 := eq_true q6
           go_wp2_with (first | ((with_reducible refine gate_callee (f := 11) rfl ?_); refine goesM (some 25) rfl rfl Tryz.func11 (by kernel_rfl) rfl #[.string (a0.extract (bd : Int).toNat (ba : Int).toNat)] rfl ?_; (with_reducible refine (spec_InsRead.calls k1 (a0.extract (bd : Int).toNat (ba : Int).toNat) bf bg bh bi bj true _ A11.out).mono ?_); rintro e bX ⟨rfl, hb⟩; refine ⟨_, rfl, ?_⟩; replace bb := nR bb hb; replace HB := nbs HB hb; (try clear hb)) | ((with_reducible refine gate_dst (N := 7) rfl ?_); refine bxe 7 #[.int .i64 0, .int .i64 0, .int .i64 0, .int .i64 0, .int .i64 0] 25 ?_; intro bk hg bY hbox hb; have bl := hbox; have bL := nge HB hg; have bM := nge HB hg; replace bb := Aside0.mk (Kd.R_below (Kd.R_elderB (nRo bb) bk (Nat.le_of_eq hg.symm)) hb); replace HB := nbs HB hb; clear hb hbox hg; obtain ⟨bZ, b0, b1, b2, b3⟩ := c5e bl; obtain ⟨b4, b5, b6, b7, b8⟩ := z5_ bl) | ((with_reducible refine gate_builtin (b := .append) (xs := #[.tmp 31, .tmp 33]) rfl ?_); at_builtin; refine Kd.R_append k25 (w0 := w) w.heap.size rfl (.tmp 31) (.tmp 33) 32 25 (.agg #[(.int .i64 0), (.int .i64 0), (.int .i64 0), (.int .i64 0), (.int .i64 0)]) 40 rfl Tryz.underlying32 info25 rfl (by decide) (by omega) u4 bc (⟨bf, bg, bh, bi, bj⟩ : S25) [.int .i64 bf, .int .i64 bg, .int .i64 bh, .int .i64 bi, .int .i64 bj] (fun k_ => k_ ≠ bk) (fun _ => False) rfl (by first | (go_simp; done) | (go_simp; rfl)) ?aP (fun _ hk => hk.elim) ?aF ?aO ?aB ?aS ?aL ?_; (case aP => exact k25_mkM _ _ _ (⟨bf, bg, bh, bi, bj⟩ : S25)); (case aB => exact (nbe HB)); (case aF => exact (fun k_ hk => Kd.freshB (g := bk) (o := .cells #[.int .i64 bf, .int .i64 bg, .int .i64 bh, .int .i64 bi, .int .i64 bj] 25 (0, 0)) (q5 bl) k_ hk)); (case aO => exact (by (with_reducible repeat (first | apply Kd.R_alloc | apply Kd.R_drewN | apply Kd.R_drew)); exact Kd.R_mono (eR5_ (Kd.R_mono bb.out (fun k_ hk => (⟨hk, hk.2⟩ : _ ∧ k_ ≠ bk)))) (fun _ hk => hk.1.2))); (case aS => exact (bsz HB)); (case aL => have := bJ.out; omega); intro b9 da ho hb hg hat; rw [← bK.out] at ho; have bN := Aside0.mk (ho); replace bl := Aside0.mk (blk_grown (g := bk) (o := .cells #[.int .i64 bf, .int .i64 bg, .int .i64 bh, .int .i64 bi, .int .i64 bj] 25 (0, 0)) (q5 bl) hg (Kd.R_away bb.out (fun _ hk => hk.2))); replace HB := Aside0.mk (hb); clear bb; clear ho hb hg hat))
           go_roundg k1
           case measure => have := bz.out; omega
           case rel => exact ⟨(bD), (wrap64 (ba + 1)), (wrap64 (ba + 1)), (by first | rfl | (simp; done) | (simp [*]; done)), (by first | rfl | (simp; done) | (simp [*]; done)), H', ⟨by have := bz.out; omega⟩, ⟨by (with_reducible repeat (first | apply Kd.R_alloc | apply Kd.R_drewN | apply Kd.R_drew)); exact Kd.R_mono bN.out (fun _ hk => trivial)⟩, ⟨nbe HB⟩⟩
          ·rw [if_neg c13] at H
           exact absurd H (by simp)
         ·replace c12 := Bool.eq_false_iff.mpr c12
          subst c12; have H1 : (some ((([] : List (S25))), false)) = some (r1, r2) := by rw [if_neg (show ¬ (false = true) by decide)] at H; exact H
          clear H; have H := H1; clear H1; obtain ⟨bO, bv⟩ : ∃ y_ : List (S25), y_ = (([] : List (S25))) := ⟨_, rfl⟩; replace H : (some (bO, false)) = some (r1, r2) := by first | (rw [bv]; with_reducible exact H) | (have H2_ := (Option.bind_some _ _).symm.trans H; rw [bv]; with_reducible exact H2_) | (have H2_ := (Option.bind_some _ _).symm.trans H; with_reducible exact H2_) | with_reducible exact H | (rw [bv]; exact H) | exact H
          have bF := Aside0.mk bv; clear bv; simp only [Option.some.injEq, Prod.mk.injEq] at H; obtain ⟨rfl, rfl⟩ := H; have p6 : 0 ≤ (ba : Int) := of_decide_eq_true (by first | (with_reducible assumption) | assumption); have q6 : ba < (a0.size : Int) := of_decide_eq_true (by first | (with_reducible assumption) | assumption); have bE := bt_at a0 ba; replace p6 := eq_true p6; replace q6 := eq_true q6
          go_wp2_with (first | ((with_reducible refine gate_callee (f := 11) rfl ?_); refine goesM (some 25) rfl rfl Tryz.func11 (by kernel_rfl) rfl #[.string (a0.extract (bd : Int).toNat (ba : Int).toNat)] rfl ?_; (with_reducible refine (spec_InsRead.calls k1 (a0.extract (bd : Int).toNat (ba : Int).toNat) bf bg bh bi bj false _ A11.out).mono ?_); rintro e db ⟨rfl, hb⟩; refine ⟨_, rfl, ?_⟩; replace bb := nR bb hb; replace HB := nbs HB hb; (try clear hb)) | ((with_reducible refine gate_dst (N := 7) rfl ?_); refine bxe 7 #[.int .i64 0, .int .i64 0, .int .i64 0, .int .i64 0, .int .i64 0] 25 ?_; intro bk hg dc hbox hb; have bl := hbox; have bL := nge HB hg; have bM := nge HB hg; replace bb := Aside0.mk (Kd.R_below (Kd.R_elderB (nRo bb) bk (Nat.le_of_eq hg.symm)) hb); replace HB := nbs HB hb; clear hb hbox hg; obtain ⟨dd, de, df, dg, dh⟩ := c5e bl; obtain ⟨di, dj, dk, dl, dm⟩ := z5_ bl) | ((with_reducible refine gate_dst (N := 30) rfl ?_); refine Kd.R_lit k25 _ 25 ?hg (N := 30) ?hd (xs := ([] : List (S25))) (inner := []) (ok := fun _ => True) (okp := fun _ => True) ?hr ?hp (fun _ hk => hk) trivial (Below.refl _ _) (Nat.le_refl _) (by simp) ?_; (case hd => rfl); (case hg => rfl); (case hr => first | (go_simp; done) | (go_simp; rfl)); (case hp => exact (Reps.none _ _)); intro dn dp bo hb hg_ hnew_; clear hg_ hnew_; (first | rw [← bF.out] at bo | (simp only [Int.reduceToNat] at bo; rw [← bF.out] at bo)); have bP := Aside0.mk (Kd.R_lower (Kd.R_newB (Kd.R_new' bo (Kd.R_lt (by (with_reducible repeat (first | apply Kd.R_alloc | apply Kd.R_drewN | apply Kd.R_drew)); exact (f5 (Kd.R_mono bb.out (fun k_ hk => (⟨hk, hk.2⟩ : _ ∧ k_ ≠ bk))))))) (g := bk) (o := .cells #[.int .i64 bf, .int .i64 bg, .int .i64 bh, .int .i64 bi, .int .i64 bj] 25 (0, 0)) (q5 bl)) (bsz HB)); replace bb := Aside0.mk (Kd.R_elder' (by (with_reducible repeat (first | apply Kd.R_alloc | apply Kd.R_drewN | apply Kd.R_drew)); exact (f5 (Kd.R_mono bb.out (fun k_ hk => (⟨hk, hk.2⟩ : _ ∧ k_ ≠ bk))))) (Kd.R_base bo) hb); replace bl := Aside0.mk (blk_below (g := bk) (o := .cells #[.int .i64 bf, .int .i64 bg, .int .i64 bh, .int .i64 bi, .int .i64 bj] 25 (0, 0)) (q5 bl) hb); replace HB := nbs HB hb; clear hb bo))
          go_ret2
          exact ⟨_, er_, by (with_reducible repeat (first | apply Kd.R_alloc | apply Kd.R_drewN | apply Kd.R_drew)); exact Kd.R_mono bP.out (fun _ hk => trivial), nbe HB⟩
        ·rw [if_neg c10] at H
         exact absurd H (by simp)
       ·rw [if_neg c9] at H
        exact absurd H (by simp)
      ·rw [if_neg c8] at H
       exact absurd H (by simp)
     ·rw [if_neg c7] at H
      have c7b0 : ((bt a0 ba) == 10) = false := beq_eq_false_iff_ne.mpr c7; have c7b1 : ((bt a0 ba) != 10) = true := bne_iff_ne.mpr c7; have H' := Aside0.mk H; clear H; have p6 : 0 ≤ (ba : Int) := of_decide_eq_true (by first | (with_reducible assumption) | assumption); have q6 : ba < (a0.size : Int) := of_decide_eq_true (by first | (with_reducible assumption) | assumption); have bE := bt_at a0 ba; replace p6 := eq_true p6; replace q6 := eq_true q6; go_wp2
      go_roundg k1
      case measure => have := bz.out; omega
      case rel => exact ⟨(bc), (bd), (wrap64 (ba + 1)), (by first | rfl | (simp; done) | (simp [*]; done)), (by first | rfl | (simp; done) | (simp [*]; done)), H', ⟨by have := bz.out; omega⟩, ⟨by (with_reducible repeat (first | apply Kd.R_alloc | apply Kd.R_drewN | apply Kd.R_drew)); exact bb.out⟩, ⟨nbe HB⟩⟩
    ·rw [if_neg c5] at H
     exact absurd H (by simp)
   ·rw [if_neg c4] at H
    have c4b0 : decide (ba < (a0.size : Int)) = false := decide_eq_false c4; clear c4
    by_cases c23 : a0.toList = ([] : List UInt8)
    ·rw [if_pos c23] at H
     have c23b0 : (a0.toList == ([] : List UInt8)) = true := beq_iff_eq.mpr c23; have c23b1 : (a0.toList != ([] : List UInt8)) = false := bne_eq_false_iff_eq.mpr c23; clear c23; obtain ⟨bQ, bw⟩ : ∃ y_ : List (S25), y_ = (([] : List (S25))) := ⟨_, rfl⟩; replace H : (some (bQ, false)) = some (r1, r2) := by first | (rw [bw]; with_reducible exact H) | (have H2_ := (Option.bind_some _ _).symm.trans H; rw [bw]; with_reducible exact H2_) | (have H2_ := (Option.bind_some _ _).symm.trans H; with_reducible exact H2_) | with_reducible exact H | (rw [bw]; exact H) | exact H
     have bG := Aside0.mk bw; clear bw; simp only [Option.some.injEq, Prod.mk.injEq] at H; obtain ⟨rfl, rfl⟩ := H
     go_wp2_with (first | ((with_reducible refine gate_dst (N := 45) rfl ?_); refine Kd.R_lit k25 _ 25 ?hg (N := 45) ?hd (xs := ([] : List (S25))) (inner := []) (ok := fun _ => True) (okp := fun _ => True) ?hr ?hp (fun _ hk => hk) trivial (Below.refl _ _) (Nat.le_refl _) (by simp) ?_; (case hd => rfl); (case hg => rfl); (case hr => first | (go_simp; done) | (go_simp; rfl)); (case hp => exact (Reps.none _ _)); intro dq dr bp hb hg_ hnew_; clear hg_ hnew_; (first | rw [← bG.out] at bp | (simp only [Int.reduceToNat] at bp; rw [← bG.out] at bp)); have bR := Aside0.mk (Kd.R_lower (Kd.R_new' bp (Kd.R_lt (nRo bb))) (bsz HB)); replace bb := Aside0.mk (Kd.R_elder' (nRo bb) (Kd.R_base bp) hb); replace HB := nbs HB hb; clear hb bp))
     go_ret2
     exact ⟨_, er_, by (with_reducible repeat (first | apply Kd.R_alloc | apply Kd.R_drewN | apply Kd.R_drew)); exact Kd.R_mono bR.out (fun _ hk => trivial), nbe HB⟩
    ·rw [if_neg c23] at H
     have c23b0 : (a0.toList == ([] : List UInt8)) = false := beq_eq_false_iff_ne.mpr c23; have c23b1 : (a0.toList != ([] : List UInt8)) = true := bne_iff_ne.mpr c23; replace H := Option.bind_eq_some_iff.mp H; obtain ⟨bm, A260, H⟩ := H; replace H : (if bm.toList = a0.toList then (some (bc, true)) else (some ((([] : List (S25))), false))) = some (r1, r2) := H; have A26 := Aside0.mk A260; clear A260
     by_cases c27 : bm.toList = a0.toList
     ·rw [if_pos c27] at H
      have c27b0 : (bm.toList == a0.toList) = true := beq_iff_eq.mpr c27; have c27b1 : (bm.toList != a0.toList) = false := bne_eq_false_iff_eq.mpr c27; clear c27; simp only [Option.some.injEq, Prod.mk.injEq] at H; obtain ⟨rfl, rfl⟩ := H; obtain ⟨ds, dt, bS⟩ := Kd.R_slice bb.out; subst bS
      go_wp2_with (first | (go_at_call 14; (with_reducible refine (spec_CodeText.calls k1 _ _ bc bm _ ?side1 ?side2 A26.out).mono ?_); (case side1 => repeat (first | exact (Kd.R_reads' bb.out).2.2 | (with_reducible refine Kd.C_alloc ?_ _) | (with_reducible refine Kd.C_drewN ?_ _) | (with_reducible refine Kd.C_drew ?_))); (case side2 => exact (Kd.R_reads' bb.out).2.1); rintro e du ⟨rfl, hb⟩; replace bb := nR bb hb; replace HB := nbs HB hb; (try clear hb)))
      go_ret2
      exact ⟨_, er_, by (with_reducible repeat (first | apply Kd.R_alloc | apply Kd.R_drewN | apply Kd.R_drew)); exact bb.out, nbe HB⟩
     ·rw [if_neg c27] at H
      have c27b0 : (bm.toList == a0.toList) = false := beq_eq_false_iff_ne.mpr c27; have c27b1 : (bm.toList != a0.toList) = true := bne_iff_ne.mpr c27; obtain ⟨bT, bx⟩ : ∃ y_ : List (S25), y_ = (([] : List (S25))) := ⟨_, rfl⟩; replace H : (some (bT, false)) = some (r1, r2) := by first | (rw [bx]; with_reducible exact H) | (have H2_ := (Option.bind_some _ _).symm.trans H; rw [bx]; with_reducible exact H2_) | (have H2_ := (Option.bind_some _ _).symm.trans H; with_reducible exact H2_) | with_reducible exact H | (rw [bx]; exact H) | exact H
      have bH := Aside0.mk bx; clear bx; simp only [Option.some.injEq, Prod.mk.injEq] at H; obtain ⟨rfl, rfl⟩ := H; obtain ⟨dv, dw, bU⟩ := Kd.R_slice bb.out; subst bU
      go_wp2_with (first | (go_at_call 14; (with_reducible refine (spec_CodeText.calls k1 _ _ bc bm _ ?side1 ?side2 A26.out).mono ?_); (case side1 => repeat (first | exact (Kd.R_reads' bb.out).2.2 | (with_reducible refine Kd.C_alloc ?_ _) | (with_reducible refine Kd.C_drewN ?_ _) | (with_reducible refine Kd.C_drew ?_))); (case side2 => exact (Kd.R_reads' bb.out).2.1); rintro e dx ⟨rfl, hb⟩; replace bb := nR bb hb; replace HB := nbs HB hb; (try clear hb)) | ((with_reducible refine gate_dst (N := 45) rfl ?_); refine Kd.R_lit k25 _ 25 ?hg (N := 45) ?hd (xs := ([] : List (S25))) (inner := []) (ok := fun _ => True) (okp := fun _ => True) ?hr ?hp (fun _ hk => hk) trivial (Below.refl _ _) (Nat.le_refl _) (by simp) ?_; (case hd => rfl); (case hg => rfl); (case hr => first | (go_simp; done) | (go_simp; rfl)); (case hp => exact (Reps.none _ _)); intro dy dz bq hb hg_ hnew_; clear hg_ hnew_; (first | rw [← bH.out] at bq | (simp only [Int.reduceToNat] at bq; rw [← bH.out] at bq)); have bV := Aside0.mk (Kd.R_lower (Kd.R_new' bq (Kd.R_lt (nRo bb))) (bsz HB)); replace bb := Aside0.mk (Kd.R_elder' (nRo bb) (Kd.R_base bq) hb); replace HB := nbs HB hb; clear hb bq))
      go_ret2
      exact ⟨_, er_, by (with_reducible repeat (first | apply Kd.R_alloc | apply Kd.R_drewN | apply Kd.R_drew)); exact Kd.R_mono bV.out (fun _ hk => trivial), nbe HB⟩

end Go.Proofs.YtlmcikjjeidnfaaGreatDoor.PFnTexts
