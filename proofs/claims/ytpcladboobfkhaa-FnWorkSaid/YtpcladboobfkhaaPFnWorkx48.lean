/- A new state, safely. -/
import Derived.Test.YtpcladboobfkhaaPFnWorkx45
namespace Go.Proofs.Ytpcladboobfkhaa.PFnWork
open Go.Proofs.Ytpcladboobfkhaa.Pure hiding stM
open Go.RowKit Go.Proofs.YtpcladboobfkhaaW.PrintWords Go.Proofs.YtpcladboobfkhaaW.PrintLast Go.Proofs.YtpcladboobfkhaaW.PrintMore Go.Proofs.YtpcladboobfkhaaW.Mine
attribute [local go_sem] dsc dhs dha ddr ddrN ddz ddc nn2 nn3 nn4 nn5 nn6 nn7 nn8 nn9
attribute [local go_sem] max2_int min2_int max_two min_two max_three min_three max_four min_four
set_option linter.unusedVariables false
set_option linter.unusedSimpArgs false
def BX (W : World) (b : Nat) (cs : Array Value) (t : TypeId) : Prop := W.heap[b]? = some (.cells cs t (0, 0))
theorem BX.below {W w' : World} {b : Nat} {cs : Array Value} {t : TypeId} (h : BX W b cs t) (hb : Below W.heap.size W w') : BX w' b cs t := (hb.block b (blk_lt h)).trans h
theorem dBX {W : World} {b : Nat} {cs : Array Value} {t : TypeId} (h : BX W b cs t := by (repeat' (with_reducible (first | assumption | refine BX.below ?_ (by assumption))))) : BX W b cs t := h
theorem bx60 {W : World} {b : Nat} (h : BX W b #[.slice none 0 0, .int .i64 0, .bool false, .int .i64 0, .int .i64 0, .int .i64 0, .int .i64 0, .slice none 0 0, .slice none 0 0, .int .i64 0] 60) : W.cell? ⟨b, 0, none⟩ = some (.slice none 0 0) ∧ W.cell? ⟨b, 1, none⟩ = some (.int .i64 0) ∧ W.cell? ⟨b, 2, none⟩ = some (.bool false) ∧ W.cell? ⟨b, 3, none⟩ = some (.int .i64 0) ∧ W.cell? ⟨b, 4, none⟩ = some (.int .i64 0) ∧ W.cell? ⟨b, 5, none⟩ = some (.int .i64 0) ∧ W.cell? ⟨b, 6, none⟩ = some (.int .i64 0) ∧ W.cell? ⟨b, 7, none⟩ = some (.slice none 0 0) ∧ W.cell? ⟨b, 8, none⟩ = some (.slice none 0 0) ∧ W.cell? ⟨b, 9, none⟩ = some (.int .i64 0) ∧ ∀ j, W.frozen? ⟨b, j, none⟩ = false := ⟨(blk_cell h 0).trans rfl, (blk_cell h 1).trans rfl, (blk_cell h 2).trans rfl, (blk_cell h 3).trans rfl, (blk_cell h 4).trans rfl, (blk_cell h 5).trans rfl, (blk_cell h 6).trans rfl, (blk_cell h 7).trans rfl, (blk_cell h 8).trans rfl, (blk_cell h 9).trans rfl, fun j => blk_frozen h j⟩
theorem s15w (b t p s n : Int) (w : World) : Calls Try.prog 15 #[.agg #[.int .i64 b, .int .i64 t, .int .i64 p, .int .i64 s], .int .i64 n] w fun e w' => ∃ v, e = .returned v ∧ (∃ n b x y z s, v = .agg #[.int .i64 n, .bool b, .int .i64 x, .int .i64 y, .int .i64 z, .int .i64 s] ∧ wOk n b x y z s = true) ∧ Below w.heap.size w w' := by
  have hk := wOk_keyWord b t p s n
  have he := spec_KeyWord_eq 0 b t p s n
  generalize keyWordM b t p s n = q at hk he
  obtain ⟨r1, r2, r3, r4, r5, r6⟩ := q
  refine (spec_KeyWord.calls (h := he) (w := w)).mono ?_
  rintro e w' ⟨rfl, b⟩
  exact ⟨_, rfl, ⟨_, _, _, _, _, _, rfl, hk⟩, b⟩
theorem s87 {w : World} : Calls Try.prog 87 #[] w fun e w' => ∃ v, e = .returned v ∧ (∃ gw cw gg cg, ∃ ms : List S29, ∃ bs : List Bool, v = .agg #[.slice (some ⟨gw, 0, none⟩) ms.length cw, .slice (some ⟨gg, 0, none⟩) bs.length cg] ∧ ms.length = 24 ∧ ms.all wOkT = true ∧ bs.length = 24 ∧ RG k29 29 w' gw cw ms ∧ RG Kd.bool 4 w' gg cg bs ∧ w.heap.size ≤ gw ∧ w.heap.size ≤ gg) ∧ Below w.heap.size w w' := by
  refine (spec_MemoryNew.calls (h := (?_ : spec_MemoryNew.f = some (List.replicate 24 z29, List.replicate 24 false))) (w := w)).mono ?_
  · unfold spec_MemoryNew.f; rw [if_pos (by omega), if_pos (by omega)]
  rintro e w' ⟨v0, v1, rfl, h0, h1, hb⟩
  obtain ⟨g0, c0, rfl, a0, a1, a2, a3⟩ := RG.of rfl h0 (by simp)
  obtain ⟨g1, c1, rfl, b0, b1, b2, b3⟩ := RG.of rfl h1 (by simp)
  exact ⟨_, rfl, ⟨_, _, _, _, _, _, rfl, by simp, by decide, by simp, a3, b3, a0, b0⟩, hb⟩
def spec_StateNew.T1 : Bool × List (List Nat × List Nat) := (true, [([], []), ([], []), ([0, 1], [0, 1]), ([], []), ([3, 2, 1, 0, 1, 2, 3], [2, 3])])
def spec_StateNew.B1 : List Nat := [0, 0, 3, 0, 15]
theorem spec_StateNew.tab1 : rtab .any (opsOf Try.f78 1) = spec_StateNew.T1 := by kernel_rfl
theorem spec_StateNew.bits1 : waitsOk spec_StateNew.T1.2 spec_StateNew.B1 = true := by kernel_rfl
def spec_StateNew.T2 : Bool × List (List Nat × List Nat) := (true, [([], []), ([0], [0]), ([], []), ([2], [2]), ([1, 0, 1, 2, 3], [1]), ([4, 3, 3, 0, 1, 2, 3], [3, 4])])
def spec_StateNew.B2 : List Nat := [0, 1, 0, 4, 15, 31]
theorem spec_StateNew.tab2 : rtab .any (opsOf Try.f78 2) = spec_StateNew.T2 := by kernel_rfl
theorem spec_StateNew.bits2 : waitsOk spec_StateNew.T2.2 spec_StateNew.B2 = true := by kernel_rfl
set_option maxHeartbeats 8000000 in
set_option maxRecDepth 100000 in
theorem spec_StateNew.safe {w : World} : Calls Try.prog 78 #[] w fun e w' => ∃ v, e = .returned v ∧ SOK w w' v ∧ Below w.heap.size w w' := by
 have hu60 := Try.underlying60; have hu29 := Try.underlying29; have hu27 := Try.underlying27; have hu58 := Try.underlying58
 go_enter Try.func78, Try.ntmps78
 go_wp2
 refine start_ (n := 5) (S := fun _ => True) (ds := []) (ml [0, 5]) (by kernel_rfl) rfl rfl trivial (fun _ => ?_); refine with_tabW spec_StateNew.tab1 spec_StateNew.bits1 (fun HT_ HW_ => ?_)
 generalize hx0 : World.drew _ = x0
 have hb0 : Below w.heap.size w x0 := (by rw [← hx0]; exact dBe)
 have hs0 : x0.heap.size = w.heap.size + 1 := (by rw [← hx0]; simp [ddz])
 have he0 : BX x0 w.heap.size _ _ := (by rw [← hx0]; exact blk_drew (blk_new _ _))
 clear hx0
 refine three_ (i := 0) (j := 1) (k := 3) (Ni := some 2) (Nj := some 3) (Nk := some 1) (ml [1, 4]) (ml [0, 1, 1, 3]) (ml [0, 3, 1, 1]) rfl rfl rfl rfl rfl rfl (by kernel_rfl) (by decide) (by decide) (by decide) (fun K hK => ?_) (fun K hK => ?_) (fun K hK => ?_)
 all_goals (first
  | (refine Kd.R_make_step k29 _ 29 (by rfl) (N := 2) rfl 40 _ _ rfl 8 rfl rfl Try.underlying40 (.agg #[(.int .i64 0), (.bool false), (.int .i64 0), (.int .i64 0), (.int .i64 0), (.int .i64 0)]) 48 info29 rfl (by decide) (by omega) z29 (ok := fun _ => True) (okp := fun _ => True) (k29_mkM _ _ _ z29) (fun _ hk => hk) trivial (by omega) (by omega) (Below.refl _ _) (Nat.le_refl _) ?_; intro v xz hR hb _ _; obtain ⟨gr, cr, rfl, m0, _, m2, r1⟩ := RG.of rfl hR (by simp); clear hR; obtain ⟨xs, hxs⟩ : ∃ y, y = List.replicate (8 : Int).toNat z29 := ⟨_, rfl⟩; rw [← hxs] at r1 ⊢; replace hxs := Aside0.mk hxs; have hs := hb.size; refine hK.out _ _ trivial (fun _ => dNs 2 ?_))
  | (refine goesR Try.func87 (by kernel_rfl) rfl #[] (by rfl) rfl rfl ?_; refine s87.mono ?_; rintro _ xz ⟨_, rfl, ⟨gw, cw, gg, cg, ms, bs, rfl, k1, k2, k3, r2, r3, c0, c1⟩, hb⟩; replace k1 := Aside0.mk k1; replace k2 := Aside0.mk k2; replace k3 := Aside0.mk k3; have c2 := r2.lt; have c3 := r3.lt; have hs := hb.size; refine ⟨_, rfl, hK.out _ _ trivial (fun _ => dN ?_)⟩)
  | (refine box_step rfl (N := 1) rfl (cs := #[.slice none 0 0, .int .i64 0, .bool false, .int .i64 0, .int .i64 0, .int .i64 0, .int .i64 0, .slice none 0 0, .slice none 0 0, .int .i64 0]) (t := 60) (by first | (go_simp; done) | (go_simp; rfl)) ?_; intro b hbe xz hbx hb; have hbl := blk_lt hbx; have hbx : BX xz b _ _ := hbx; have hs := hb.size; have hbe' := Nat.le_of_eq hbe.symm; clear hbe; refine hK.out _ _ trivial (fun _ => dNs 1 ?_)))
 all_goals (first
  | (have := gr; refine two_ (i := 1) (j := 3) (Ni := some 3) (Nj := some 1) (ml [2, 3]) (ml [1, 2, 1, 1]) rfl rfl rfl rfl (two_of HT_.out (by kernel_rfl)) (by decide) (by decide) (fun K hK => ?_) (fun K hK => ?_))
  | (have := gw; refine two_ (i := 0) (j := 3) (Ni := some 2) (Nj := some 1) (ml [2, 3]) (ml [0, 1, 1, 1, 1, 1]) rfl rfl rfl rfl (two_of HT_.out (by kernel_rfl)) (by decide) (by decide) (fun K hK => ?_) (fun K hK => ?_))
  | (refine two_ (i := 0) (j := 1) (Ni := some 2) (Nj := some 3) (ml [1, 2, 1, 1]) (ml [0, 1, 1, 1, 1, 1]) rfl rfl rfl rfl (two_of HT_.out (by kernel_rfl)) (by decide) (by decide) (fun K hK => ?_) (fun K hK => ?_)))
 all_goals (first
  | (refine Kd.R_make_step k29 _ 29 (by rfl) (N := 2) rfl 40 _ _ rfl 8 rfl rfl Try.underlying40 (.agg #[(.int .i64 0), (.bool false), (.int .i64 0), (.int .i64 0), (.int .i64 0), (.int .i64 0)]) 48 info29 rfl (by decide) (by omega) z29 (ok := fun _ => True) (okp := fun _ => True) (k29_mkM _ _ _ z29) (fun _ hk => hk) trivial (by omega) (by omega) (Below.refl _ _) (Nat.le_refl _) ?_; intro v xz hR hb _ _; obtain ⟨gr, cr, rfl, m0, _, m2, r1⟩ := RG.of rfl hR (by simp); clear hR; obtain ⟨xs, hxs⟩ : ∃ y, y = List.replicate (8 : Int).toNat z29 := ⟨_, rfl⟩; rw [← hxs] at r1 ⊢; replace hxs := Aside0.mk hxs; have hs := hb.size; refine hK.out _ _ trivial (fun _ => dNs 2 ?_))
  | (refine goesR Try.func87 (by kernel_rfl) rfl #[] (by rfl) rfl rfl ?_; refine s87.mono ?_; rintro _ xz ⟨_, rfl, ⟨gw, cw, gg, cg, ms, bs, rfl, k1, k2, k3, r2, r3, c0, c1⟩, hb⟩; replace k1 := Aside0.mk k1; replace k2 := Aside0.mk k2; replace k3 := Aside0.mk k3; have c2 := r2.lt; have c3 := r3.lt; have hs := hb.size; refine ⟨_, rfl, hK.out _ _ trivial (fun _ => dN ?_)⟩)
  | (refine box_step rfl (N := 1) rfl (cs := #[.slice none 0 0, .int .i64 0, .bool false, .int .i64 0, .int .i64 0, .int .i64 0, .int .i64 0, .slice none 0 0, .slice none 0 0, .int .i64 0]) (t := 60) (by first | (go_simp; done) | (go_simp; rfl)) ?_; intro b hbe xz hbx hb; have hbl := blk_lt hbx; have hbx : BX xz b _ _ := hbx; have hs := hb.size; have hbe' := Nat.le_of_eq hbe.symm; clear hbe; refine hK.out _ _ trivial (fun _ => dNs 1 ?_)))
 all_goals (first
  | (have := gr; have := gw; refine rP HT_.out 2 4 (ml [3, 2]) ?_; refine one_ (i := 3) (N := some 1) (ml [4, 1]) rfl rfl (one_of HT_.out (by kernel_rfl)) (by decide) (fun K hK => ?_))
  | (have := gr; refine one_ (i := 1) (N := some 3) (ml [2, 1, 1, 1]) rfl rfl (one_of HT_.out (by kernel_rfl)) (by decide) (fun K hK => ?_))
  | (refine one_ (i := 0) (N := some 2) (ml [2, 1, 1, 1]) rfl rfl (one_of HT_.out (by kernel_rfl)) (by decide) (fun K hK => ?_)))
 all_goals (first
  | (refine Kd.R_make_step k29 _ 29 (by rfl) (N := 2) rfl 40 _ _ rfl 8 rfl rfl Try.underlying40 (.agg #[(.int .i64 0), (.bool false), (.int .i64 0), (.int .i64 0), (.int .i64 0), (.int .i64 0)]) 48 info29 rfl (by decide) (by omega) z29 (ok := fun _ => True) (okp := fun _ => True) (k29_mkM _ _ _ z29) (fun _ hk => hk) trivial (by omega) (by omega) (Below.refl _ _) (Nat.le_refl _) ?_; intro v xz hR hb _ _; obtain ⟨gr, cr, rfl, m0, _, m2, r1⟩ := RG.of rfl hR (by simp); clear hR; obtain ⟨xs, hxs⟩ : ∃ y, y = List.replicate (8 : Int).toNat z29 := ⟨_, rfl⟩; rw [← hxs] at r1 ⊢; replace hxs := Aside0.mk hxs; have hs := hb.size; refine hK.out _ _ trivial (fun _ => dNs 2 ?_))
  | (refine goesR Try.func87 (by kernel_rfl) rfl #[] (by rfl) rfl rfl ?_; refine s87.mono ?_; rintro _ xz ⟨_, rfl, ⟨gw, cw, gg, cg, ms, bs, rfl, k1, k2, k3, r2, r3, c0, c1⟩, hb⟩; replace k1 := Aside0.mk k1; replace k2 := Aside0.mk k2; replace k3 := Aside0.mk k3; have c2 := r2.lt; have c3 := r3.lt; have hs := hb.size; refine ⟨_, rfl, hK.out _ _ trivial (fun _ => dN ?_)⟩)
  | (refine box_step rfl (N := 1) rfl (cs := #[.slice none 0 0, .int .i64 0, .bool false, .int .i64 0, .int .i64 0, .int .i64 0, .int .i64 0, .slice none 0 0, .slice none 0 0, .int .i64 0]) (t := 60) (by first | (go_simp; done) | (go_simp; rfl)) ?_; intro b hbe xz hbx hb; have hbl := blk_lt hbx; have hbx : BX xz b _ _ := hbx; have hs := hb.size; have hbe' := Nat.le_of_eq hbe.symm; clear hbe; refine hK.out _ _ trivial (fun _ => dNs 1 ?_)))
 all_goals
  have n1 : gr < xz.heap.size ∧ gw < xz.heap.size ∧ gg < xz.heap.size ∧ b < xz.heap.size ∧ w.heap.size < xz.heap.size ∧ gr ≠ b ∧ gw ≠ b ∧ gg ≠ b ∧ gr ≠ gw ∧ w.heap.size < gr ∧ w.heap.size < gw ∧ w.heap.size < gg ∧ w.heap.size < b := by
   have := r1.lt
   omega
 all_goals
  have q1 := bx60 (W := xz) (b := b) dBX; have q0 := bx60 (W := xz) (b := w.heap.size) dBX
  replace r1 : RG k29 29 xz gr cr xs := dRG; replace r2 : RG k29 29 xz gw cw ms := dRG; replace r3 : RG Kd.bool 4 xz gg cg bs := dRG
  have hB : Below w.heap.size w xz := dBe
  have f1 := dz1 (n := gr) r1.lt; have f2 := dz1 (n := gw) r2.lt; have f3 := dz1 (n := gg) r3.lt; have f4 := dz1 (n := b) n1.2.2.2.1; have f5 := dz1 (n := w.heap.size) n1.2.2.2.2.1
  have g1 := n1.2.2.2.2.2.1.symm; have g2 := n1.2.2.2.2.2.2.1.symm; have g3 := n1.2.2.2.2.2.2.2.1.symm
  have f6 := dz1 (n := w.heap.size) n1.2.2.2.2.2.2.2.2.2.1; have f7 := dz1 (n := w.heap.size) n1.2.2.2.2.2.2.2.2.2.2.1; have f8 := dz1 (n := w.heap.size) n1.2.2.2.2.2.2.2.2.2.2.2.1; have f9 := dz1 (n := w.heap.size) n1.2.2.2.2.2.2.2.2.2.2.2.2
  (first
   | (refine dS HT_.out 4 (ml [5]) (fun _ => ?_) (hS := trivial) (hi := rfl))
   | (refine rP HT_.out 2 4 (ml [4, 1]) ?_; refine dS HT_.out 4 (ml [5]) (fun _ => ?_) (hS := trivial)))
 all_goals
  have l1 : 8 ≤ xs.length ∧ xs.length ≤ 8 := by rw [hxs.out]; decide
  have j1 : decide (0 < (xs.length : Int)) = true := decide_eq_true (by omega)
  have j2 : decide (0 < xs.length) = true := decide_eq_true (by omega)
  have j3 : 0 < xs.length := by omega
  have e1 := r1.w6 0 (by omega) (by omega)
  simp only [Int.toNat_zero, Nat.zero_mul, Nat.zero_add] at e1
  refine done_ (done_of HT_.out (by kernel_rfl)) ?_
  go_wp2
  refine dst 0 none [5] (ml [0, 6]) spec_StateNew.tab2 spec_StateNew.bits2 (fun HT_ HW_ hH => ?_)
  refine rP HT_.out 0 5 (ml [1, 5]) ?_
  refine rP HT_.out 2 7 (ml [1, 1, 1, 3]) ?_
  refine dT HT_.out HW_.out hH 1 6 (ml [3, 3]) ?_
  refine dC HT_.out 3 (some 8) (ml [4, 2]) Try.func15 #[.agg #[.int .i64 0, .int .i64 24, .int .i64 59, .int .i64 0], .int .i64 0] ?_
  (with_reducible refine dmv (s15w _ _ _ _ _ _) ?_); rintro _ xy ⟨a1, a2, a3, a4, a5, a6, rfl, o1⟩ hb hd
  replace o1 := Aside0.mk o1
  have f1 := dz1 (n := gr) hb.size; have f2 := dz1 (n := gw) hb.size; have f3 := dz1 (n := gg) hb.size; have f4 := dz1 (n := b) hb.size; have f5 := dz1 (n := w.heap.size) hb.size
  refine ⟨_, rfl, dSB hH, fun hH => dN ?_⟩
  refine rP HT_.out 4 9 (ml [5, 1]) ?_
  refine dL HT_.out 5 (ml [6]) ?_
  refine done_ (done_of HT_.out (by kernel_rfl)) ?_
  go_wp2_with (first
   | (go_at_call 15; (with_reducible refine dmv (s15w _ _ _ _ _ _) ?_); rintro _ xx ⟨b1, b2, b3, b4, b5, b6, rfl, o2⟩ hb hd; replace o2 := Aside0.mk o2; have f1 := dz1 (n := gr) hb.size; have f2 := dz1 (n := gw) hb.size; have f3 := dz1 (n := gg) hb.size; have f4 := dz1 (n := b) hb.size; have f5 := dz1 (n := w.heap.size) hb.size))
  refine bodyPost_ret (drc rfl _ _ rfl (by go_simp; rfl)) rfl ?_
  exact ⟨_, rfl, ⟨gr, cr, gw, cw, gg, cg, xs.set 0 ⟨a1, a2, ⟨a3, a4, a5, a6⟩⟩, ms, bs, b1, b2, b3, b4, b5, b6, by simp only [List.length_set], stM_mk (by rw [List.length_set, hxs.out]; rfl) (all_set _ 0 ⟨a1, a2, ⟨a3, a4, a5, a6⟩⟩ (by rw [hxs.out]; decide) o1.out) o2.out k1.out k2.out k3.out (by decide), dRG, dRG, dRG, n1.2.2.2.2.2.2.2.2.1, by omega, by omega, by omega⟩, dBe⟩
end Go.Proofs.Ytpcladboobfkhaa.PFnWork
