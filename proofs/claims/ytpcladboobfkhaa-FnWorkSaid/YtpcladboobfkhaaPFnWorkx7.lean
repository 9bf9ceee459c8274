-- Written by a program of this session (wip/patch.py turns a copy of the kit's print): the functions that the law reaches, and their walks.
import Derived.Test.YtpcladboobfkhaaPFnWorkx0
import Derived.Test.YtpcladboobfkhaaPFnWorkx4
import Derived.Test.YtpcladboobfkhaaPFnWorkx6
import Derived.Test.YtpcladboobfkhaaCFnWork
import Derived.Test.YtpcladboobfkhaaEFnWork
namespace Go.Proofs.Ytpcladboobfkhaa.PFnWork
open Go.RowKit Go.Proofs.YtpcladboobfkhaaW.PrintWords Go.Proofs.YtpcladboobfkhaaW.PrintLast Go.Proofs.YtpcladboobfkhaaW.PrintMore Go.Proofs.YtpcladboobfkhaaW.Mine
attribute [local go_sem] dsc dhs dha ddr ddrN
attribute [local go_sem] max2_int min2_int max_two min_two max_three min_three max_four min_four   -- for this text's walks alone
set_option linter.unusedVariables false
set_option linter.unusedSimpArgs false

/-! ### spec_l2DrawRight: function 67 -/
mutual
def spec_l2DrawRight.j0 : Nat → List Int → Int → Int → Int → Int → Int → Int → Option (Int × Int × Int × Int × Int × Int)
 | 0, _, _, _, _, _, _, _ => none
 | k + 1, bJ, b8, b9, bR, bS, b0, b1 => (spec_l1Once.f bJ b8 b9 2).bind fun bT => (if bT.1 = true then ((spec_l1Below.f bJ bT.2.1 bT.2.2 64).bind fun bD => (spec_l2DrawRight.j1 k bJ bD.2.1 bD.2.2 bR bS bD.1 b1)) else (spec_l2DrawRight.j1 k bJ bT.2.1 bT.2.2 bR bS b0 b1))
def spec_l2DrawRight.j1 : Nat → List Int → Int → Int → Int → Int → Int → Int → Option (Int × Int × Int × Int × Int × Int)
 | 0, _, _, _, _, _, _, _ => none
 | k + 1, bJ, b8, b9, bR, bS, b0, b1 => (spec_l1Once.f bJ b8 b9 5).bind fun bU => (if bU.1 = true then ((spec_l1Below.f bJ bU.2.1 bU.2.2 7).bind fun bE => (some (bR, bS, b0, wrap64 (1 + bE.1), bE.2.1, bE.2.2))) else (some (bR, bS, b0, b1, bU.2.1, bU.2.2)))
end
def spec_l2DrawRight.f (k : Nat) (s0_0 : List Int) (s0_1 : Int) (s0_2 : Int) : Option (Int × Int × Int × Int × Int × Int) := (spec_Root.f).bind fun bh => ((spec_l1Below.f s0_0 s0_1 s0_2 4).bind fun bf => (if bf.1 = 0 then ((spec_l1Below.f s0_0 bf.2.1 bf.2.2 30).bind fun bl => ((spec_l1Below.f s0_0 bl.2.1 bl.2.2 33).bind fun bm => (spec_l2DrawRight.j0 k s0_0 bm.2.1 bm.2.2 bl.1 (wrap64 (bl.1 + bm.1)) bh.2.2.1 bh.2.2.2))) else (if bf.1 = 1 then ((spec_l1Below.f s0_0 bf.2.1 bf.2.2 20).bind fun bn => ((spec_l1Below.f s0_0 bn.2.1 bn.2.2 9).bind fun bo => (spec_l2DrawRight.j0 k s0_0 bo.2.1 bo.2.2 (wrap64 (64 * bn.1)) (wrap64 ((wrap64 (64 * bn.1)) + (wrap64 (64 * bo.1)))) bh.2.2.1 bh.2.2.2))) else (if bf.1 = 2 then (spec_l2DrawRight.j0 k s0_0 bf.2.1 bf.2.2 bh.1 32 bh.2.2.1 bh.2.2.2) else (spec_l2DrawRight.j0 k s0_0 bf.2.1 bf.2.2 bh.1 bh.2.1 bh.2.2.1 bh.2.2.2)))))
theorem spec_l2DrawRight.mono_l : ∀ k, (∀ y0 y1 y2 y3 y4 y5 y6, LeO (spec_l2DrawRight.j0 k y0 y1 y2 y3 y4 y5 y6) (spec_l2DrawRight.j0 (k + 1) y0 y1 y2 y3 y4 y5 y6)) ∧ (∀ y0 y1 y2 y3 y4 y5 y6, LeO (spec_l2DrawRight.j1 k y0 y1 y2 y3 y4 y5 y6) (spec_l2DrawRight.j1 (k + 1) y0 y1 y2 y3 y4 y5 y6))
 | 0 => ⟨fun _ _ _ _ _ _ _ r h => by simp [spec_l2DrawRight.j0] at h, fun _ _ _ _ _ _ _ r h => by simp [spec_l2DrawRight.j1] at h⟩
 | k + 1 => by
  obtain ⟨ih0, ih1⟩ := spec_l2DrawRight.mono_l k; refine ⟨?_, ?_⟩
  ·intro y0 y1 y2 y3 y4 y5 y6
   unfold spec_l2DrawRight.j0
   repeat' first
   | (with_reducible exact ih0 _ _ _ _ _ _ _)
   | (with_reducible exact ih1 _ _ _ _ _ _ _)
   | (with_reducible exact LeO.refl _)
   | (with_reducible exact LeO.none _)
   | (with_reducible refine LeO.ite ?_ ?_)
   | (with_reducible refine LeO.bind ?_ (fun _ => ?_))
   | exact ih0 _ _ _ _ _ _ _
   | exact ih1 _ _ _ _ _ _ _
   | exact LeO.none _
   | refine LeO.ite ?_ ?_
   | refine LeO.bind ?_ (fun _ => ?_)
  ·intro y0 y1 y2 y3 y4 y5 y6
   unfold spec_l2DrawRight.j1
   repeat' first
   | (with_reducible exact ih0 _ _ _ _ _ _ _)
   | (with_reducible exact ih1 _ _ _ _ _ _ _)
   | (with_reducible exact LeO.refl _)
   | (with_reducible exact LeO.none _)
   | (with_reducible refine LeO.ite ?_ ?_)
   | (with_reducible refine LeO.bind ?_ (fun _ => ?_))
   | exact ih0 _ _ _ _ _ _ _
   | exact ih1 _ _ _ _ _ _ _
   | exact LeO.none _
   | refine LeO.ite ?_ ?_
   | refine LeO.bind ?_ (fun _ => ?_)
theorem spec_l2DrawRight.mono : ∀ a0 a1 a2 k, LeO (spec_l2DrawRight.f k a0 a1 a2) (spec_l2DrawRight.f (k + 1) a0 a1 a2) := by
 intro a0 a1 a2 k; obtain ⟨ih0, ih1⟩ := spec_l2DrawRight.mono_l k
 unfold spec_l2DrawRight.f
 repeat' first
   | (with_reducible exact ih0 _ _ _ _ _ _ _)
   | (with_reducible exact ih1 _ _ _ _ _ _ _)
   | (with_reducible exact LeO.refl _)
   | (with_reducible exact LeO.none _)
   | (with_reducible refine LeO.ite ?_ ?_)
   | (with_reducible refine LeO.bind ?_ (fun _ => ?_))
   | exact ih0 _ _ _ _ _ _ _
   | exact ih1 _ _ _ _ _ _ _
   | exact LeO.none _
   | refine LeO.ite ?_ ?_
   | refine LeO.bind ?_ (fun _ => ?_)
def spec_l2DrawRight.T8 : Bool × List (List Nat × List Nat) := (true, [([], []), ([0], [0]), ([], []), ([2], [2]), ([3], [3]), ([1, 4], [1, 4]), ([0, 1, 2, 3, 4, 5], []), ([6, 5, 3, 0, 1, 2, 3, 4, 5], [5, 6])])
def spec_l2DrawRight.B8 : List Nat := [0, 1, 0, 4, 12, 31, 63, 127]
theorem spec_l2DrawRight.tab8 : rtab .any (opsOf Try.f67 8) = spec_l2DrawRight.T8 := by kernel_rfl
theorem spec_l2DrawRight.bits8 : waitsOk spec_l2DrawRight.T8.2 spec_l2DrawRight.B8 = true := by kernel_rfl
set_option maxHeartbeats 8000000 in
set_option maxRecDepth 100000 in
theorem spec_l2DrawRight.calls (k : Nat) (g : Nat) (s0_0 : List Int) (s0_1 : Int) (s0_2 : Int) (r1 : Int) (r2 : Int) (r3 : Int) (r4 : Int) (r5 : Int) (r6 : Int) (w0 w : World) (hI : IsS69 w0 w g s0_0 s0_1 s0_2) (hB : Below w0.heap.size w0 w) (h : spec_l2DrawRight.f k s0_0 s0_1 s0_2 = some (r1, r2, r3, r4, r5, r6)) :
  Calls Try.prog 67 #[.pointer (some ⟨g, 0, none⟩)] w fun e w' => e = .returned (.agg #[.int .i64 r1, .int .i64 r2, .int .i64 r3, .int .i64 r4]) ∧ IsS69 w0 w' g s0_0 r5 r6 ∧ Below w0.heap.size w0 w' ∧ KeepBut w w' g none := by
 have hu27 := Try.underlying27; have HI0 := Aside0.mk hI; have HK := Aside0.mk (KeepBut.refl w g none); have HL := Aside0.mk hB.size; clear hI; have HW0 := Aside0.mk hB.size; have HB := Aside0.mk hB; clear hB; have H := h; clear h; unfold spec_l2DrawRight.f at H; (try dsimp only at H); replace H := Option.bind_eq_some_iff.mp H; obtain ⟨⟨bF, bz, bg, bd⟩, A20, H⟩ := H; (try dsimp only at H); have A2 := Aside0.mk A20; clear A20; replace H := Option.bind_eq_some_iff.mp H; obtain ⟨⟨bp, bG, bH⟩, A30, H⟩ := H; (try dsimp only at H); have A3 := Aside0.mk A30; clear A30; have da := Aside0.mk H; clear H
 go_enter Try.func67, Try.ntmps67
 go_upto_block 0 with (first | ((with_reducible refine gate_dst (N := 2) rfl ?_); refine bxe 2 #[.int .i64 0, .int .i64 0, .int .i64 0, .int .i64 0] 27 ?_; intro bk hg w5 hbox hb; have bs := Aside0.mk (IsS69.below (IsS69.n) hb); have bt := Aside0.mk (KeepBut.trans (nK HK) (KeepBut.of_below hb g none) (.inl rfl)); have bu := Aside0.mk (below_step (IsS69.nb) hb); have bv := hbox; have bA := Aside0.mk ((by rw [hg]; exact (keep_size (w := w) (g := g) (row := none) (nK HK)) : w.heap.size ≤ bk)); have bV := Aside0.mk ((Nat.le_trans HW0.out (by rw [hg]; exact (keep_size (w := w) (g := g) (row := none) (nK HK)) : w.heap.size ≤ bk) : w0.heap.size ≤ bk)); have bW := Aside0.mk ((by rw [hg]; exact Nat.ne_of_lt (IsS69.lt (show IsS69 w0 _ g s0_0 s0_1 s0_2 from IsS69.n)) : g ≠ bk)); have bX := Aside0.mk ((by rw [hg]; exact Nat.ne_of_gt (IsS69.lt (show IsS69 w0 _ g s0_0 s0_1 s0_2 from IsS69.n)) : bk ≠ g)); clear HI0 HK HB; have HI0 := bs; have HK := bt; have HB := bu; have bb := bv; have ef := bA; have eg := bV; have dn := bW; have bC := bX; clear bs bt bu bv bA bV bW bX; clear hb hbox hg) | ((with_reducible refine gate_callee (f := 82) rfl ?_); refine goesM (some 4) rfl rfl Try.func82 (by kernel_rfl) rfl #[] rfl ?_; (with_reducible refine (spec_Root.calls  bF bz bg bd _ A2.out).mono ?_); rintro e w6 ⟨rfl, hb⟩; refine ⟨_, rfl, ?_⟩; have bs := Aside0.mk (IsS69.below (IsS69.n) hb); have bt := nblk bb hb; have bu := Aside0.mk (KeepBut.trans (nK HK) (KeepBut.of_below hb g none) (.inl rfl)); have bv := Aside0.mk (below_step (IsS69.nb) hb); clear HI0 bb HK HB; have HI0 := bs; have bb := bt; have HK := bu; have HB := bv; clear bs bt bu bv; (try clear hb)) | ((with_reducible refine gate_dst (N := 3) rfl ?_); refine bxe 3 #[.int .i64 0, .int .i64 0, .int .i64 0, .int .i64 0] 27 ?_; intro bc hg w7 hbox hb; have bs := Aside0.mk (IsS69.below (IsS69.n) hb); have bt := nblk bb hb; have bu := Aside0.mk (KeepBut.trans (nK HK) (KeepBut.of_below hb g none) (.inl rfl)); have bv := Aside0.mk (below_step (IsS69.nb) hb); have bA := hbox; have bV := Aside0.mk ((by rw [hg]; exact (keep_size (w := w) (g := g) (row := none) (nK HK)) : w.heap.size ≤ bc)); have bW := Aside0.mk ((Nat.le_trans HW0.out (by rw [hg]; exact (keep_size (w := w) (g := g) (row := none) (nK HK)) : w.heap.size ≤ bc) : w0.heap.size ≤ bc)); have bX := nlt bb hg; have dp := ngt bb hg; have dq := Aside0.mk ((by rw [hg]; exact Nat.ne_of_lt (IsS69.lt (show IsS69 w0 _ g s0_0 s0_1 s0_2 from IsS69.n)) : g ≠ bc)); have dr := Aside0.mk ((by rw [hg]; exact Nat.ne_of_gt (IsS69.lt (show IsS69 w0 _ g s0_0 s0_1 s0_2 from IsS69.n)) : bc ≠ g)); clear HI0 bb HK HB; have HI0 := bs; have bb := bt; have HK := bu; have HB := bv; have ba := bA; have eh := bV; have ei := bW; have bq := bX; have bI := dp; have bK := dq; have br := dr; clear bs bt bu bv bA bV bW bX dp dq dr; clear hb hbox hg; have ej := bI.out; have ek := bq.out; have el := br.out; have em := bK.out; obtain ⟨dt, du, dv, dw⟩ := c4e ba; obtain ⟨dx, dy, dz, dA⟩ := z4_ ba) | ((with_reducible refine gate_callee (f := 16) rfl ?_); refine goesM (some 6) rfl rfl Try.func16 (by kernel_rfl) rfl #[.pointer (some ⟨g, 0, none⟩), .int .i64 4] rfl ?_; (with_reducible refine (spec_l1Below.calls g s0_0 s0_1 s0_2 4 bp bG bH w0 _ ?side1 ?side2 A3.out).mono ?_); (case side1 => exact IsS69.n); (case side2 => exact IsS69.nb); rintro e en ⟨rfl, hi, hb, hk⟩; refine ⟨_, rfl, ?_⟩; replace bb := Aside0.mk (KeepBut.blk hk (g' := bk) (o := .cells #[.int .i64 0, .int .i64 0, .int .i64 0, .int .i64 0] 27 (0, 0)) (k4_ bq.out (nb bb)) bC.out (by simp)); replace ba := Aside0.mk (KeepBut.blk hk (g' := bc) (o := .cells #[.int .i64 bF, .int .i64 bz, .int .i64 bg, .int .i64 bd] 27 (0, 0)) (q4 ba) br.out (by simp)); replace HK := Aside0.mk (KeepBut.trans (nK HK) hk (.inl rfl)); replace HB := Aside0.mk (hb); replace HI0 := Aside0.mk (hi); (try clear hb)))
 (try simp only [Act.put, List.setIfInBounds_toArray, List.set_cons_zero, List.set_cons_succ])
 go_cut [] (fun wc => ∃ (kq : Nat) (b2 : Int) (b3 : Int) (bi : Int) (bj : Int), Aside0 (spec_l2DrawRight.j0 kq s0_0 b2 b3 bi bj bg bd = some (r1, r2, r3, r4, r5, r6)) ∧ Aside0 (kq ≤ k) ∧ Aside0 (wc.heap[bk]? = some (.cells #[.int .i64 0, .int .i64 0, .int .i64 0, .int .i64 0] 27 (0, 0))) ∧ Aside0 (wc.heap[bc]? = some (.cells #[.int .i64 bi, .int .i64 bj, .int .i64 bg, .int .i64 bd] 27 (0, 0))) ∧ Aside0 (IsS69 w0 wc g s0_0 b2 b3) ∧ Aside0 (KeepBut w wc g none) ∧ Aside0 (Below w0.heap.size w0 wc))
 case first =>
  have H := da.out; clear da
  by_cases c12 : bp = 0
  ·rw [if_pos c12] at H
   have c12b0 : (bp == 0) = true := beq_iff_eq.mpr c12; have c12b1 : (bp != 0) = false := bne_eq_false_iff_eq.mpr c12; clear c12; (first | rw [c12b0] | (simp only [i64_w, i32_w]; rw [c12b0]) | skip); replace H := Option.bind_eq_some_iff.mp H; obtain ⟨⟨bw, b4, b5⟩, A130, H⟩ := H; (try dsimp only at H); have A13 := Aside0.mk A130; clear A130; replace H := Option.bind_eq_some_iff.mp H; obtain ⟨⟨db, dc, dd⟩, A140, H⟩ := H; (try dsimp only at H); have A14 := Aside0.mk A140; clear A140; have H' := Aside0.mk H; clear H
   try go_wp2_with (first | ((with_reducible refine gate_callee (f := 16) rfl ?_); refine goesM (some 10) rfl rfl Try.func16 (by kernel_rfl) rfl #[.pointer (some ⟨g, 0, none⟩), .int .i64 30] rfl ?_; (with_reducible refine (spec_l1Below.calls g s0_0 bG bH 30 bw b4 b5 w0 _ ?side1 ?side2 A13.out).mono ?_); (case side1 => exact IsS69.n); (case side2 => exact IsS69.nb); rintro e bP ⟨rfl, hi, hb, hk⟩; refine ⟨_, rfl, ?_⟩; replace bb := Aside0.mk (KeepBut.blk hk (g' := bk) (o := .cells #[.int .i64 0, .int .i64 0, .int .i64 0, .int .i64 0] 27 (0, 0)) (nb bb) bC.out (by simp)); replace ba := Aside0.mk (KeepBut.blk hk (g' := bc) (o := .cells #[.int .i64 bF, .int .i64 bz, .int .i64 bg, .int .i64 bd] 27 (0, 0)) (nb ba) br.out (by simp)); replace HK := Aside0.mk (KeepBut.trans (nK HK) hk (.inl rfl)); replace HB := Aside0.mk (hb); replace HI0 := Aside0.mk (hi); (try clear hb); have eo := bI.out; have ep := bq.out; have er := br.out; have es := bK.out; obtain ⟨dB, dC, dD, dE⟩ := c4e ba; obtain ⟨dF, dG, dH, dI⟩ := z4_ ba))
   have bs : Aside0 ((bP.setCell ⟨bc, 0, none⟩ (.int .i64 bw)).heap[bk]? = some (.cells #[.int .i64 0, .int .i64 0, .int .i64 0, .int .i64 0] 27 (0, 0))) := ⟨k1_ bq.out (nb bb)⟩; have bt : Aside0 ((bP.setCell ⟨bc, 0, none⟩ (.int .i64 bw)).heap[bc]? = some (.cells #[.int .i64 bw, .int .i64 bz, .int .i64 bg, .int .i64 bd] 27 (0, 0))) := ⟨qp ba⟩; have bu : Aside0 (IsS69 w0 (bP.setCell ⟨bc, 0, none⟩ (.int .i64 bw)) g s0_0 b4 b5) := ⟨IsS69.n⟩; have bv : Aside0 (KeepBut w (bP.setCell ⟨bc, 0, none⟩ (.int .i64 bw)) g none) := ⟨nK HK⟩; have bA : Aside0 (Below w0.heap.size w0 (bP.setCell ⟨bc, 0, none⟩ (.int .i64 bw))) := ⟨IsS69.nb⟩; (try clear bb); (try clear ba); (try clear HI0); (try clear HK); (try clear HB); generalize (bP.setCell ⟨bc, 0, none⟩ (.int .i64 bw)) = d3 at bs bt bu bv bA ⊢; have bb := bs; have ba := bt; have HI0 := bu; have HK := bv; have HB := bA; clear bs bt bu bv bA; replace bb := Aside0.mk (blk_drew bb.out); replace ba := Aside0.mk (blk_drew ba.out); replace HI0 := Aside0.mk (IsS69.drew HI0.out); replace HK := Aside0.mk (keep_drew HK.out); replace HB := Aside0.mk (below_drew1 HB.out); refine start_ (n := 7) (S := fun w' => w'.cell? ⟨bc, 0, none⟩ = some (.int .i64 bw) ∧ w'.cell? ⟨bc, 1, none⟩ = some (.int .i64 bz) ∧ w'.cell? ⟨bc, 2, none⟩ = some (.int .i64 bg) ∧ w'.cell? ⟨bc, 3, none⟩ = some (.int .i64 bd)) (ds := [6]) #[false, false, false, false, false, false, false] (by kernel_rfl) rfl rfl (c4e ba) (fun hHeld => ?_); generalize d3.drew = et at bb ba HI0 HK HB hHeld ⊢; refine rPk 0 12 #[true, false, false, false, false, false, false] ?_; refine rPk 2 14 #[true, false, true, false, false, false, false] ?_; refine rTk hHeld 1 13 #[true, true, true, false, false, false, false] ?_; refine one_ (i := 3) (N := some 15) #[true, true, true, true, false, false, false] rfl rfl (by kernel_rfl) (by decide) (fun K hK => ?_); refine goesR Try.func16 (by kernel_rfl) rfl #[.pointer (some ⟨g, 0, none⟩), .int .i64 33] (by rfl) rfl rfl ?_; (with_reducible refine (spec_l1Below.calls g s0_0 b4 b5 33 db dc dd w0 _ ?side1 ?side2 A14.out).mono ?_); (case side1 => exact IsS69.n); (case side2 => exact IsS69.nb); rintro e d4 ⟨rfl, hi, hb, hk⟩; refine ⟨_, rfl, ?_⟩; replace bb := Aside0.mk (KeepBut.blk hk (g' := bk) (o := .cells #[.int .i64 0, .int .i64 0, .int .i64 0, .int .i64 0] 27 (0, 0)) (nb bb) bC.out (by simp)); replace ba := Aside0.mk (KeepBut.blk hk (g' := bc) (o := .cells #[.int .i64 bw, .int .i64 bz, .int .i64 bg, .int .i64 bd] 27 (0, 0)) (nb ba) br.out (by simp)); replace HK := Aside0.mk (KeepBut.trans (nK HK) hk (.inl rfl)); replace HB := Aside0.mk (hb); replace HI0 := Aside0.mk (hi); (try clear hb); refine hK.out _ _ (c4e ba) (fun hHeld => ?_); clear hK K; refine norm_ (a' := ?_) ?_ ?_; rotate_left
   ·show Act.put _ (some 15) _ = _
    simp only [Act.put, List.setIfInBounds_toArray, List.set_cons_zero, List.set_cons_succ, i64_w, i32_w]; rfl
   refine rPk 4 16 #[true, true, true, true, true, false, false] ?_; refine rPk 5 17 #[true, true, true, true, true, true, false] ?_; refine last_ (i := 6) (N := none) #[true, true, true, true, true, true, true] rfl rfl (by kernel_rfl) (by decide) (fun K hK => ?_); have hs22 : d4.cell? ⟨bc, 1, none⟩ = some (.int .i64 bz) := (blk_cell ba.out 1).trans rfl; have hfs22 := blk_frozen ba.out 1; have hns22_0 := bq.out; have hms22_0 := bI.out; refine skip_ (w1 := ?_) (by rfl) rfl ?_ ?_; rotate_left
   ·go_simp
    rfl
   refine hK.out _ _ ?_; clear hK K; refine done_ (by kernel_rfl) ?_
   try go_wp2
   go_meet
   case rel => exact ⟨_, (dc), (dd), (bw), (wrap64 (bw + db)), H', ⟨by first | omega | exact Nat.le_refl _⟩, ⟨k1_ bq.out (nb bb)⟩, ⟨qp ba⟩, ⟨IsS69.n⟩, ⟨nK HK⟩, ⟨IsS69.nb⟩⟩
  ·rw [if_neg c12] at H
   have c12b0 : (bp == 0) = false := beq_eq_false_iff_ne.mpr c12; have c12b1 : (bp != 0) = true := bne_iff_ne.mpr c12; (first | rw [c12b0] | (simp only [i64_w, i32_w]; rw [c12b0]) | skip)
   by_cases c23 : bp = 1
   ·rw [if_pos c23] at H
    have c23b0 : (bp == 1) = true := beq_iff_eq.mpr c23; have c23b1 : (bp != 1) = false := bne_eq_false_iff_eq.mpr c23; clear c23; replace H := Option.bind_eq_some_iff.mp H; obtain ⟨⟨bx, b6, b7⟩, A240, H⟩ := H; (try dsimp only at H); have A24 := Aside0.mk A240; clear A240; replace H := Option.bind_eq_some_iff.mp H; obtain ⟨⟨de, df, dg⟩, A250, H⟩ := H; (try dsimp only at H); have A25 := Aside0.mk A250; clear A250; have H' := Aside0.mk H; clear H
    try go_wp2_with (first | ((with_reducible refine gate_callee (f := 16) rfl ?_); refine goesM (some 21) rfl rfl Try.func16 (by kernel_rfl) rfl #[.pointer (some ⟨g, 0, none⟩), .int .i64 20] rfl ?_; (with_reducible refine (spec_l1Below.calls g s0_0 bG bH 20 bx b6 b7 w0 _ ?side1 ?side2 A24.out).mono ?_); (case side1 => exact IsS69.n); (case side2 => exact IsS69.nb); rintro e bQ ⟨rfl, hi, hb, hk⟩; refine ⟨_, rfl, ?_⟩; replace bb := Aside0.mk (KeepBut.blk hk (g' := bk) (o := .cells #[.int .i64 0, .int .i64 0, .int .i64 0, .int .i64 0] 27 (0, 0)) (nb bb) bC.out (by simp)); replace ba := Aside0.mk (KeepBut.blk hk (g' := bc) (o := .cells #[.int .i64 bF, .int .i64 bz, .int .i64 bg, .int .i64 bd] 27 (0, 0)) (nb ba) br.out (by simp)); replace HK := Aside0.mk (KeepBut.trans (nK HK) hk (.inl rfl)); replace HB := Aside0.mk (hb); replace HI0 := Aside0.mk (hi); (try clear hb); have eu := bI.out; have ev := bq.out; have ew := br.out; have ex := bK.out; obtain ⟨dJ, dK, dL, dM⟩ := c4e ba; obtain ⟨dN, dO, dP, dQ⟩ := z4_ ba))
    have bs : Aside0 ((bQ.setCell ⟨bc, 0, none⟩ (.int .i64 (wrap64 (64 * bx)))).heap[bk]? = some (.cells #[.int .i64 0, .int .i64 0, .int .i64 0, .int .i64 0] 27 (0, 0))) := ⟨k1_ bq.out (nb bb)⟩; have bt : Aside0 ((bQ.setCell ⟨bc, 0, none⟩ (.int .i64 (wrap64 (64 * bx)))).heap[bc]? = some (.cells #[.int .i64 (wrap64 (64 * bx)), .int .i64 bz, .int .i64 bg, .int .i64 bd] 27 (0, 0))) := ⟨qp ba⟩; have bu : Aside0 (IsS69 w0 (bQ.setCell ⟨bc, 0, none⟩ (.int .i64 (wrap64 (64 * bx)))) g s0_0 b6 b7) := ⟨IsS69.n⟩; have bv : Aside0 (KeepBut w (bQ.setCell ⟨bc, 0, none⟩ (.int .i64 (wrap64 (64 * bx)))) g none) := ⟨nK HK⟩; have bA : Aside0 (Below w0.heap.size w0 (bQ.setCell ⟨bc, 0, none⟩ (.int .i64 (wrap64 (64 * bx))))) := ⟨IsS69.nb⟩; (try clear bb); (try clear ba); (try clear HI0); (try clear HK); (try clear HB); generalize (bQ.setCell ⟨bc, 0, none⟩ (.int .i64 (wrap64 (64 * bx)))) = d5 at bs bt bu bv bA ⊢; have bb := bs; have ba := bt; have HI0 := bu; have HK := bv; have HB := bA; clear bs bt bu bv bA; replace bb := Aside0.mk (blk_drew bb.out); replace ba := Aside0.mk (blk_drew ba.out); replace HI0 := Aside0.mk (IsS69.drew HI0.out); replace HK := Aside0.mk (keep_drew HK.out); replace HB := Aside0.mk (below_drew1 HB.out); refine start_ (n := 8) (S := fun w' => w'.cell? ⟨bc, 0, none⟩ = some (.int .i64 (wrap64 (64 * bx))) ∧ w'.cell? ⟨bc, 1, none⟩ = some (.int .i64 bz) ∧ w'.cell? ⟨bc, 2, none⟩ = some (.int .i64 bg) ∧ w'.cell? ⟨bc, 3, none⟩ = some (.int .i64 bd)) (ds := [7]) #[false, false, false, false, false, false, false, false] (by kernel_rfl) rfl rfl (c4e ba) (fun hHeld => ?_); refine with_tabW spec_l2DrawRight.tab8 spec_l2DrawRight.bits8 (fun HT_ HW_ => ?_); generalize d5.drew = ey at bb ba HI0 HK HB hHeld ⊢; refine rP HT_.out 0 24 #[true, false, false, false, false, false, false, false] ?_; refine rP HT_.out 2 26 #[true, false, true, false, false, false, false, false] ?_; refine rT HT_.out HW_.out hHeld 1 25 #[true, true, true, false, false, false, false, false] ?_; refine one_ (i := 3) (N := some 27) #[true, true, true, true, false, false, false, false] rfl rfl (one_of HT_.out (by kernel_rfl)) (by decide) (fun K hK => ?_); refine goesR Try.func16 (by kernel_rfl) rfl #[.pointer (some ⟨g, 0, none⟩), .int .i64 9] (by rfl) rfl rfl ?_; (with_reducible refine (spec_l1Below.calls g s0_0 b6 b7 9 de df dg w0 _ ?side1 ?side2 A25.out).mono ?_); (case side1 => exact IsS69.n); (case side2 => exact IsS69.nb); rintro e d6 ⟨rfl, hi, hb, hk⟩; refine ⟨_, rfl, ?_⟩; replace bb := Aside0.mk (KeepBut.blk hk (g' := bk) (o := .cells #[.int .i64 0, .int .i64 0, .int .i64 0, .int .i64 0] 27 (0, 0)) (nb bb) bC.out (by simp)); replace ba := Aside0.mk (KeepBut.blk hk (g' := bc) (o := .cells #[.int .i64 (wrap64 (64 * bx)), .int .i64 bz, .int .i64 bg, .int .i64 bd] 27 (0, 0)) (nb ba) br.out (by simp)); replace HK := Aside0.mk (KeepBut.trans (nK HK) hk (.inl rfl)); replace HB := Aside0.mk (hb); replace HI0 := Aside0.mk (hi); (try clear hb); refine hK.out _ _ (c4e ba) (fun hHeld => ?_); clear hK K; refine norm_ (a' := ?_) ?_ ?_; rotate_left
    ·show Act.put _ (some 27) _ = _
     simp only [Act.put, List.setIfInBounds_toArray, List.set_cons_zero, List.set_cons_succ, i64_w, i32_w]; rfl
    refine rP HT_.out 4 28 #[true, true, true, true, true, false, false, false] ?_; refine rP HT_.out 5 29 #[true, true, true, true, true, true, false, false] ?_; refine rP HT_.out 6 30 #[true, true, true, true, true, true, true, false] ?_; refine last_ (i := 7) (N := none) #[true, true, true, true, true, true, true, true] rfl rfl (one_of HT_.out (by kernel_rfl)) (by decide) (fun K hK => ?_); have hs33 : d6.cell? ⟨bc, 1, none⟩ = some (.int .i64 bz) := (blk_cell ba.out 1).trans rfl; have hfs33 := blk_frozen ba.out 1; have hns33_0 := bq.out; have hms33_0 := bI.out; refine skip_ (w1 := ?_) (by rfl) rfl ?_ ?_; rotate_left
    ·go_simp
     rfl
    refine hK.out _ _ ?_; clear hK K; refine done_ (done_of HT_.out (by kernel_rfl)) ?_
    try go_wp2
    go_meet
    case rel => exact ⟨_, (df), (dg), (wrap64 (64 * bx)), (wrap64 ((wrap64 (64 * bx)) + (wrap64 (64 * de)))), H', ⟨by first | omega | exact Nat.le_refl _⟩, ⟨k1_ bq.out (nb bb)⟩, ⟨qp ba⟩, ⟨IsS69.n⟩, ⟨nK HK⟩, ⟨IsS69.nb⟩⟩
   ·rw [if_neg c23] at H
    have c23b0 : (bp == 1) = false := beq_eq_false_iff_ne.mpr c23; have c23b1 : (bp != 1) = true := bne_iff_ne.mpr c23
    by_cases c34 : bp = 2
    ·rw [if_pos c34] at H
     have c34b0 : (bp == 2) = true := beq_iff_eq.mpr c34; have c34b1 : (bp != 2) = false := bne_eq_false_iff_eq.mpr c34; clear c34; have H' := Aside0.mk H; clear H; have ez := bI.out; have eA := bq.out; have eB := br.out; have eC := bK.out; obtain ⟨dR, dS, dT, dU⟩ := c4e ba; obtain ⟨dV, dW, dX, dY⟩ := z4_ ba; go_wp2
     go_meet
     case rel => exact ⟨_, (bG), (bH), (bF), (32), H', ⟨by first | omega | exact Nat.le_refl _⟩, ⟨k1_ bq.out (nb bb)⟩, ⟨qp ba⟩, ⟨IsS69.n⟩, ⟨nK HK⟩, ⟨IsS69.nb⟩⟩
    ·rw [if_neg c34] at H
     have c34b0 : (bp == 2) = false := beq_eq_false_iff_ne.mpr c34; have c34b1 : (bp != 2) = true := bne_iff_ne.mpr c34; have H' := Aside0.mk H; clear H; go_wp2
     go_meet
     case rel => exact ⟨_, (bG), (bH), (bF), (bz), H', ⟨by first | omega | exact Nat.le_refl _⟩, ⟨nb bb⟩, ⟨nb ba⟩, ⟨IsS69.n⟩, ⟨nK HK⟩, ⟨IsS69.nb⟩⟩
 case rest =>
  clear da; try clear c1
  try clear c2
  try clear p2
  try clear c3
  try clear c6
  try clear p6
  try clear c8
  try clear c9
  try clear c12
  try clear c12b0
  try clear c12b1
  try clear c16
  try clear c17
  try clear c23
  try clear c23b0
  try clear c23b1
  try clear c27
  try clear c28
  try clear c34
  try clear c34b0
  try clear c34b1
  try clear c35
  try clear c36
  try clear dt
  try clear du
  try clear dv
  try clear dw
  try clear dB
  try clear dC
  try clear dD
  try clear dE
  try clear dJ
  try clear dK
  try clear dL
  try clear dM
  try clear dR
  try clear dS
  try clear dT
  try clear dU
  try clear dx
  try clear dy
  try clear dz
  try clear dA
  try clear dF
  try clear dG
  try clear dH
  try clear dI
  try clear dN
  try clear dO
  try clear dP
  try clear dQ
  try clear dV
  try clear dW
  try clear dX
  try clear dY
  obtain ⟨kq, b2, b3, bi, bj, HA, dZ, bb, ba, HI0, HK, HB⟩ := hcut
  cases kq with
  | zero => exact absurd HA.out (by simp [spec_l2DrawRight.j0])
  | succ kj3 =>
   have H := HA.out; clear HA; simp only [spec_l2DrawRight.j0] at H; replace H := Option.bind_eq_some_iff.mp H; obtain ⟨⟨dh, bL, bM⟩, A380, H⟩ := H; (try dsimp only at H); have A38 := Aside0.mk A380; clear A380; have di := Aside0.mk H; clear H
   go_upto_if 35 with (first | ((with_reducible refine gate_callee (f := 17) rfl ?_); refine goesM (some 35) rfl rfl Try.func17 (by kernel_rfl) rfl #[.pointer (some ⟨g, 0, none⟩), .int .i64 2] rfl ?_; (with_reducible refine (spec_l1Once.calls g s0_0 b2 b3 2 dh bL bM w0 _ ?side1 ?side2 A38.out).mono ?_); (case side1 => exact IsS69.n); (case side2 => exact IsS69.nb); rintro e eD ⟨rfl, hi, hb, hk⟩; refine ⟨_, rfl, ?_⟩; replace bb := Aside0.mk (KeepBut.blk hk (g' := bk) (o := .cells #[.int .i64 0, .int .i64 0, .int .i64 0, .int .i64 0] 27 (0, 0)) (nb bb) bC.out (by simp)); replace ba := Aside0.mk (KeepBut.blk hk (g' := bc) (o := .cells #[.int .i64 bi, .int .i64 bj, .int .i64 bg, .int .i64 bd] 27 (0, 0)) (nb ba) br.out (by simp)); replace HK := Aside0.mk (KeepBut.trans (nK HK) hk (.inl rfl)); replace HB := Aside0.mk (hb); replace HI0 := Aside0.mk (hi); (try clear hb)))
   (try simp only [Act.put, List.setIfInBounds_toArray, List.set_cons_zero, List.set_cons_succ])
   go_cut [] (fun wc => ∃ (kq : Nat) (bY : Int) (bZ : Int) (bB : Int), Aside0 (spec_l2DrawRight.j1 kq s0_0 bY bZ bi bj bB bd = some (r1, r2, r3, r4, r5, r6)) ∧ Aside0 (kq ≤ kj3) ∧ Aside0 (wc.heap[bk]? = some (.cells #[.int .i64 0, .int .i64 0, .int .i64 0, .int .i64 0] 27 (0, 0))) ∧ Aside0 (wc.heap[bc]? = some (.cells #[.int .i64 bi, .int .i64 bj, .int .i64 bB, .int .i64 bd] 27 (0, 0))) ∧ Aside0 (IsS69 w0 wc g s0_0 bY bZ) ∧ Aside0 (KeepBut w wc g none) ∧ Aside0 (Below w0.heap.size w0 wc))
   case first =>
    have H := di.out; clear di
    by_cases c41 : dh = true
    ·subst c41
     rw [if_pos rfl] at H; (try dsimp only at H); replace H := Option.bind_eq_some_iff.mp H; obtain ⟨⟨dj, dk, dl⟩, A420, H⟩ := H; (try dsimp only at H); have A42 := Aside0.mk A420; clear A420; have H' := Aside0.mk H; clear H
     go_wp2_with (first | ((with_reducible refine gate_callee (f := 16) rfl ?_); refine goesM (some 37) rfl rfl Try.func16 (by kernel_rfl) rfl #[.pointer (some ⟨g, 0, none⟩), .int .i64 64] rfl ?_; (with_reducible refine (spec_l1Below.calls g s0_0 bL bM 64 dj dk dl w0 _ ?side1 ?side2 A42.out).mono ?_); (case side1 => exact IsS69.n); (case side2 => exact IsS69.nb); rintro e eE ⟨rfl, hi, hb, hk⟩; refine ⟨_, rfl, ?_⟩; replace bb := Aside0.mk (KeepBut.blk hk (g' := bk) (o := .cells #[.int .i64 0, .int .i64 0, .int .i64 0, .int .i64 0] 27 (0, 0)) (nb bb) bC.out (by simp)); replace ba := Aside0.mk (KeepBut.blk hk (g' := bc) (o := .cells #[.int .i64 bi, .int .i64 bj, .int .i64 bg, .int .i64 bd] 27 (0, 0)) (nb ba) br.out (by simp)); replace HK := Aside0.mk (KeepBut.trans (nK HK) hk (.inl rfl)); replace HB := Aside0.mk (hb); replace HI0 := Aside0.mk (hi); (try clear hb); have eF := bI.out; have eG := bq.out; have eH := br.out; have eI := bK.out; obtain ⟨d7, d8, d9, ea⟩ := c4e ba; obtain ⟨eb, ec, ed, ee⟩ := z4_ ba))
     go_meet
     case rel => exact ⟨_, (dk), (dl), (dj), H', ⟨by have := dZ.out; first | omega | exact Nat.le_refl _⟩, ⟨k1_ bq.out (nb bb)⟩, ⟨qp ba⟩, ⟨IsS69.n⟩, ⟨nK HK⟩, ⟨IsS69.nb⟩⟩
    ·replace c41 := Bool.eq_false_iff.mpr c41
     subst c41; rw [if_neg (show ¬ (false = true) by decide)] at H; (try dsimp only at H); have H' := Aside0.mk H; clear H; go_wp2
     go_meet
     case rel => exact ⟨_, (bL), (bM), (bg), H', ⟨by have := dZ.out; first | omega | exact Nat.le_refl _⟩, ⟨nb bb⟩, ⟨nb ba⟩, ⟨IsS69.n⟩, ⟨nK HK⟩, ⟨IsS69.nb⟩⟩
   case rest =>
    clear di; try clear c1
    try clear c2
    try clear p2
    try clear c3
    try clear c4
    try clear c6
    try clear p6
    try clear c8
    try clear c9
    try clear c12
    try clear c12b0
    try clear c12b1
    try clear c16
    try clear c17
    try clear c23
    try clear c23b0
    try clear c23b1
    try clear c27
    try clear c28
    try clear c34
    try clear c34b0
    try clear c34b1
    try clear c35
    try clear c36
    try clear c41
    try clear c44
    try clear c45
    try clear dt
    try clear du
    try clear dv
    try clear dw
    try clear dB
    try clear dC
    try clear dD
    try clear dE
    try clear dJ
    try clear dK
    try clear dL
    try clear dM
    try clear dR
    try clear dS
    try clear dT
    try clear dU
    try clear d7
    try clear d8
    try clear d9
    try clear ea
    try clear dx
    try clear dy
    try clear dz
    try clear dA
    try clear dF
    try clear dG
    try clear dH
    try clear dI
    try clear dN
    try clear dO
    try clear dP
    try clear dQ
    try clear dV
    try clear dW
    try clear dX
    try clear dY
    try clear eb
    try clear ec
    try clear ed
    try clear ee
    try clear p2
    try clear p6
    obtain ⟨kq, bY, bZ, bB, HA, eJ, bb, ba, HI0, HK, HB⟩ := hcut
    cases kq with
    | zero => exact absurd HA.out (by simp [spec_l2DrawRight.j1])
    | succ kj38 =>
     have H := HA.out; clear HA; simp only [spec_l2DrawRight.j1] at H; replace H := Option.bind_eq_some_iff.mp H; obtain ⟨⟨d0, bN, bO⟩, A470, H⟩ := H; (try dsimp only at H); have A47 := Aside0.mk A470; clear A470
     by_cases c48 : d0 = true
     ·subst c48
      rw [if_pos rfl] at H; (try dsimp only at H); replace H := Option.bind_eq_some_iff.mp H; obtain ⟨⟨dm, d1, d2⟩, A490, H⟩ := H; (try dsimp only at H); have A49 := Aside0.mk A490; clear A490; simp only [Option.some.injEq, Prod.mk.injEq] at H; obtain ⟨rfl, rfl, rfl, rfl, rfl, rfl⟩ := H
      go_wp2_with (first | ((with_reducible refine gate_callee (f := 17) rfl ?_); refine goesM (some 40) rfl rfl Try.func17 (by kernel_rfl) rfl #[.pointer (some ⟨g, 0, none⟩), .int .i64 5] rfl ?_; (with_reducible refine (spec_l1Once.calls g s0_0 bY bZ 5 true bN bO w0 _ ?side1 ?side2 A47.out).mono ?_); (case side1 => exact IsS69.n); (case side2 => exact IsS69.nb); rintro e eK ⟨rfl, hi, hb, hk⟩; refine ⟨_, rfl, ?_⟩; replace bb := Aside0.mk (KeepBut.blk hk (g' := bk) (o := .cells #[.int .i64 0, .int .i64 0, .int .i64 0, .int .i64 0] 27 (0, 0)) (nb bb) bC.out (by simp)); replace ba := Aside0.mk (KeepBut.blk hk (g' := bc) (o := .cells #[.int .i64 bi, .int .i64 bj, .int .i64 bB, .int .i64 bd] 27 (0, 0)) (nb ba) br.out (by simp)); replace HK := Aside0.mk (KeepBut.trans (nK HK) hk (.inl rfl)); replace HB := Aside0.mk (hb); replace HI0 := Aside0.mk (hi); (try clear hb)) | ((with_reducible refine gate_callee (f := 16) rfl ?_); refine goesM (some 42) rfl rfl Try.func16 (by kernel_rfl) rfl #[.pointer (some ⟨g, 0, none⟩), .int .i64 7] rfl ?_; (with_reducible refine (spec_l1Below.calls g s0_0 bN bO 7 dm d1 d2 w0 _ ?side1 ?side2 A49.out).mono ?_); (case side1 => exact IsS69.n); (case side2 => exact IsS69.nb); rintro e eL ⟨rfl, hi, hb, hk⟩; refine ⟨_, rfl, ?_⟩; replace bb := Aside0.mk (KeepBut.blk hk (g' := bk) (o := .cells #[.int .i64 0, .int .i64 0, .int .i64 0, .int .i64 0] 27 (0, 0)) (nb bb) bC.out (by simp)); replace ba := Aside0.mk (KeepBut.blk hk (g' := bc) (o := .cells #[.int .i64 bi, .int .i64 bj, .int .i64 bB, .int .i64 bd] 27 (0, 0)) (nb ba) br.out (by simp)); replace HK := Aside0.mk (KeepBut.trans (nK HK) hk (.inl rfl)); replace HB := Aside0.mk (hb); replace HI0 := Aside0.mk (hi); (try clear hb); have eM := bI.out; have eN := bq.out; have eO := br.out; have eP := bK.out; obtain ⟨eQ, eR, eS, eT⟩ := c4e ba; obtain ⟨eU, eV, eW, eX⟩ := z4_ ba; have eY := bC.out; have eZ := dn.out; obtain ⟨e0, e1, e2, e3⟩ := c4e bb; obtain ⟨e4, e5, e6, e7⟩ := z4_ bb))
      refine bodyPost_ret (results_cell_row rfl _ _ bk 27 #[.int .i64 bi, .int .i64 bj, .int .i64 bB, .int .i64 (wrap64 (1 + dm))] (0, 0) _ rfl (p4 bb (k1_ bq.out (nb bb))) Try.underlying27 rfl (by kernel_rfl)) rfl ?_; exact ⟨er_, IsS69.n, IsS69.nb, nK HK⟩
     ·replace c48 := Bool.eq_false_iff.mpr c48
      subst c48; rw [if_neg (show ¬ (false = true) by decide)] at H; (try dsimp only at H); simp only [Option.some.injEq, Prod.mk.injEq] at H; obtain ⟨rfl, rfl, rfl, rfl, rfl, rfl⟩ := H
      go_wp2_with (first | ((with_reducible refine gate_callee (f := 17) rfl ?_); refine goesM (some 40) rfl rfl Try.func17 (by kernel_rfl) rfl #[.pointer (some ⟨g, 0, none⟩), .int .i64 5] rfl ?_; (with_reducible refine (spec_l1Once.calls g s0_0 bY bZ 5 false bN bO w0 _ ?side1 ?side2 A47.out).mono ?_); (case side1 => exact IsS69.n); (case side2 => exact IsS69.nb); rintro e e8 ⟨rfl, hi, hb, hk⟩; refine ⟨_, rfl, ?_⟩; replace bb := Aside0.mk (KeepBut.blk hk (g' := bk) (o := .cells #[.int .i64 0, .int .i64 0, .int .i64 0, .int .i64 0] 27 (0, 0)) (nb bb) bC.out (by simp)); replace ba := Aside0.mk (KeepBut.blk hk (g' := bc) (o := .cells #[.int .i64 bi, .int .i64 bj, .int .i64 bB, .int .i64 bd] 27 (0, 0)) (nb ba) br.out (by simp)); replace HK := Aside0.mk (KeepBut.trans (nK HK) hk (.inl rfl)); replace HB := Aside0.mk (hb); replace HI0 := Aside0.mk (hi); (try clear hb); have e9 := bI.out; have ga := bq.out; have gb := br.out; have gc := bK.out; obtain ⟨gd, gf, gg, gh⟩ := c4e ba; obtain ⟨gi, gj, gl, gm⟩ := z4_ ba; have gn := bC.out; have gp := dn.out; obtain ⟨gq, gr, gs, gt⟩ := c4e bb; obtain ⟨gu, gv, gw, gx⟩ := z4_ bb))
      refine bodyPost_ret (results_cell_row rfl _ _ bk 27 #[.int .i64 bi, .int .i64 bj, .int .i64 bB, .int .i64 bd] (0, 0) _ rfl (q4 bb) Try.underlying27 rfl (by kernel_rfl)) rfl ?_; exact ⟨er_, IsS69.n, IsS69.nb, nK HK⟩
end Go.Proofs.Ytpcladboobfkhaa.PFnWork
