-- Written by a program of this session (wip/patch.py turns a copy of the kit's print): the functions that the law reaches, and their walks.
import Derived.Test.YtednioabjiabiaaPFnMemoryx0
import Derived.Test.YtednioabjiabiaaPFnMemoryx5
import Derived.Test.YtednioabjiabiaaPFnMemoryx6
import Derived.Test.YtednioabjiabiaaPFnMemoryx8
import Derived.Test.YtednioabjiabiaaPFnMemoryx10
import Derived.Test.YtednioabjiabiaaCFnMemory
namespace Go.Proofs.Ytednioabjiabiaa.PFnMemory
open Go.RowKit Go.Proofs.YtednioabjiabiaaW.PrintWords Go.Proofs.YtednioabjiabiaaW.PrintLast Go.Proofs.YtednioabjiabiaaW.PrintMore Go.Proofs.YtednioabjiabiaaW.Mine
attribute [local go_sem] max2_int min2_int max_two min_two max_three min_three max_four min_four   -- for this text's walks alone
set_option linter.unusedVariables false
set_option linter.unusedSimpArgs false

/-! ### spec_DrawWrite: function 21 -/
def spec_DrawWrite.f (k : Nat) (l0 : List Int) : Option ((List (S36)) × List Bool × Int × Bool × Int × Int × Int × Int × Int × Int × Bool × Int × Int × Int × Int) := (spec_DrawRead.f k l0).bind fun bq => ((spec_l1New.f k l0).bind fun bF => ((spec_l3Draw.f k bF.1 bF.2.1 bF.2.2).bind fun bf => (some (bq.1, bq.2.1, bq.2.2.1, bq.2.2.2.1, bq.2.2.2.2.1, bq.2.2.2.2.2.1, bq.2.2.2.2.2.2.1, bq.2.2.2.2.2.2.2.1, bq.2.2.2.2.2.2.2.2, bf.1, bf.2.1, bf.2.2.1, bf.2.2.2.1, bf.2.2.2.2.1, bf.2.2.2.2.2.1))))
theorem spec_DrawWrite.mono : ∀ a0 k, LeO (spec_DrawWrite.f k a0) (spec_DrawWrite.f (k + 1) a0) := by
  intro a0 k
  unfold spec_DrawWrite.f
  repeat' first
      | (with_reducible exact spec_DrawRead.mono _ _)
      | (with_reducible exact spec_l1New.mono _ _)
      | (with_reducible exact spec_l3Draw.mono _ _ _ _)
      | (with_reducible exact LeO.refl _)
      | (with_reducible exact LeO.none _)
      | (with_reducible refine LeO.ite ?_ ?_)
      | (with_reducible refine LeO.bind ?_ (fun _ => ?_))
      | exact spec_DrawRead.mono _ _
      | exact spec_l1New.mono _ _
      | exact spec_l3Draw.mono _ _ _ _
      | exact LeO.none _
      | refine LeO.ite ?_ ?_
      | refine LeO.bind ?_ (fun _ => ?_)
def spec_DrawWrite.T2 : Bool × List (List Nat × List Nat) := (true, [([], []), ([], []), ([], []), ([], []), ([3], [3]), ([4, 4], [4]), ([0, 5, 0], [0]), ([1, 6, 0, 1, 6], [1]), ([2, 7, 0, 1, 2, 6, 7], [2]), ([5, 8, 0, 1, 2, 3, 4, 5, 6, 7, 8], [5])])
def spec_DrawWrite.B2 : List Nat := [0, 0, 0, 0, 8, 24, 57, 123, 255, 511]
theorem spec_DrawWrite.tab2 : rtab .any (opsOf Try.f21 2) = spec_DrawWrite.T2 := by kernel_rfl
theorem spec_DrawWrite.bits2 : waitsOk spec_DrawWrite.T2.2 spec_DrawWrite.B2 = true := by kernel_rfl
set_option maxHeartbeats 8000000 in
set_option maxRecDepth 100000 in
theorem spec_DrawWrite.calls (k : Nat) (A0 : Option Addr) (c0 : Nat) (l0 : List Int) (r1 : List (S36)) (r2 : List Bool) (r3 : Int) (r4 : Bool) (r5 : Int) (r6 : Int) (r7 : Int) (r8 : Int) (r9 : Int) (r10 : Int) (r11 : Bool) (r12 : Int) (r13 : Int) (r14 : Int) (r15 : Int) (w : World) (hr0 : Kd.C (Kd.int .u8) w A0 l0.length l0) (hc0 : l0.length ≤ c0) (h : spec_DrawWrite.f k l0 = some (r1, r2, r3, r4, r5, r6, r7, r8, r9, r10, r11, r12, r13, r14, r15)) :
    Calls Try.prog 21 #[.slice A0 l0.length c0] w fun e w' => ∃ v0_ v1_ : Value, e = .returned (.tuple #[.agg #[v0_, v1_], .agg #[.int .i64 r3, .bool r4, .int .i64 r5, .int .i64 r6, .int .i64 r7, .int .i64 r8], .int .i64 r9, .agg #[.int .i64 r10, .bool r11, .int .i64 r12, .int .i64 r13, .int .i64 r14, .int .i64 r15]]) ∧ Kd.Q k36 36 w' w.heap.size (fun _ => True) v0_ r1 ∧ Kd.R Kd.bool 4 w' w.heap.size (fun _ => True) v1_ r2 ∧ Below w.heap.size w w' := by
  have hu27 := Try.underlying27; have hu36 := Try.underlying36; have bB := Aside0.mk hr0; have dw := Aside0.mk hc0; clear hr0 hc0; have HB := Aside0.mk (Below.refl w.heap.size w); have H : ((spec_DrawRead.f k l0).bind fun bq => ((spec_l1New.f k l0).bind fun bF => ((spec_l3Draw.f k bF.1 bF.2.1 bF.2.2).bind fun bf => (some (bq.1, bq.2.1, bq.2.2.1, bq.2.2.2.1, bq.2.2.2.2.1, bq.2.2.2.2.2.1, bq.2.2.2.2.2.2.1, bq.2.2.2.2.2.2.2.1, bq.2.2.2.2.2.2.2.2, bf.1, bf.2.1, bf.2.2.1, bf.2.2.2.1, bf.2.2.2.2.1, bf.2.2.2.2.2.1))))) = some (r1, r2, r3, r4, r5, r6, r7, r8, r9, r10, r11, r12, r13, r14, r15) := h; clear h; replace H := Option.bind_eq_some_iff.mp H; obtain ⟨⟨bi, bj, bk, bl, bm, bn, bo, bp, bV⟩, A20, H⟩ := H; replace H : ((spec_l1New.f k l0).bind fun bF => ((spec_l3Draw.f k bF.1 bF.2.1 bF.2.2).bind fun bf => (some (bi, bj, bk, bl, bm, bn, bo, bp, bV, bf.1, bf.2.1, bf.2.2.1, bf.2.2.2.1, bf.2.2.2.2.1, bf.2.2.2.2.2.1)))) = some (r1, r2, r3, r4, r5, r6, r7, r8, r9, r10, r11, r12, r13, r14, r15) := H; have A2 := Aside0.mk A20; clear A20; replace H := Option.bind_eq_some_iff.mp H; obtain ⟨⟨bS, bT, bU⟩, A30, H⟩ := H; replace H : ((spec_l3Draw.f k bS bT bU).bind fun bf => (some (bi, bj, bk, bl, bm, bn, bo, bp, bV, bf.1, bf.2.1, bf.2.2.1, bf.2.2.2.1, bf.2.2.2.2.1, bf.2.2.2.2.2.1))) = some (r1, r2, r3, r4, r5, r6, r7, r8, r9, r10, r11, r12, r13, r14, r15) := H; have A3 := Aside0.mk A30; clear A30; replace H := Option.bind_eq_some_iff.mp H; obtain ⟨⟨b1, b2, b3, b4, b5, b6, dJ, dK⟩, A40, H⟩ := H; replace H : (some (bi, bj, bk, bl, bm, bn, bo, bp, bV, b1, b2, b3, b4, b5, b6)) = some (r1, r2, r3, r4, r5, r6, r7, r8, r9, r10, r11, r12, r13, r14, r15) := H; have A4 := Aside0.mk A40; clear A40; simp only [Option.some.injEq, Prod.mk.injEq] at H; obtain ⟨rfl, rfl, rfl, rfl, rfl, rfl, rfl, rfl, rfl, rfl, rfl, rfl, rfl, rfl, rfl⟩ := H
  go_enter Try.func21, Try.ntmps21
  try go_wp2_with (first | ((with_reducible refine gate_dst (N := 2) rfl ?_); refine bxe 2 #[.slice none 0 0, .slice none 0 0] 27 ?_; intro bK hg w5 hbox hb; have bd := hbox; have dY := nge HB hg; have dZ := nge HB hg; replace HB := nbs HB hb; clear hb hbox hg) | ((with_reducible refine gate_dst (N := 3) rfl ?_); refine bxe 3 #[.int .i64 0, .bool false, .int .i64 0, .int .i64 0, .int .i64 0, .int .i64 0] 36 ?_; intro bz hg w6 hbox hb; have bb := hbox; have d0 := nge HB hg; have d1 := nge HB hg; have b7 := nlt bd hg; have b8 := ngt bd hg; replace bd := nblk bd hb; replace HB := nbs HB hb; clear hb hbox hg) | ((with_reducible refine gate_dst (N := 5) rfl ?_); refine bxe 5 #[.int .i64 0, .bool false, .int .i64 0, .int .i64 0, .int .i64 0, .int .i64 0] 36 ?_; intro bA hg w7 hbox hb; have bc := hbox; have d2 := nge HB hg; have d3 := nge HB hg; have b9 := nlt bd hg; have da := ngt bd hg; have db := nlt bb hg; have dc := ngt bb hg; replace bd := nblk bd hb; replace bb := nblk bb hb; replace HB := nbs HB hb; clear hb hbox hg) | ((with_reducible refine gate_callee (f := 24) rfl ?_); refine goesM (some 11) rfl rfl Try.func24 (by kernel_rfl) rfl #[.slice A0 l0.length c0] rfl ?_; (with_reducible refine (spec_DrawRead.calls k _ _ l0 bi bj bk bl bm bn bo bp bV _ ?side1 ?side2 A2.out).mono ?_); (case side1 => exact nCb bB HB); (case side2 => exact dw.out); rintro e w8 ⟨d4, d5, rfl, bL, dx, hb⟩; refine ⟨_, rfl, ?_⟩; have bw := Aside0.mk (Kd.Q_lower (Kd.Q_newB (Kd.Q_newB bL (g := bz) (o := .cells #[.int .i64 0, .bool false, .int .i64 0, .int .i64 0, .int .i64 0, .int .i64 0] 36 (0, 0)) (nb bb)) (g := bA) (o := .cells #[.int .i64 0, .bool false, .int .i64 0, .int .i64 0, .int .i64 0, .int .i64 0] 36 (0, 0)) (nb bc)) (bsz HB)); have bx := Aside0.mk (Kd.R_lower dx (bsz HB)); replace bd := nblk bd hb; replace bb := nblk bb hb; replace bc := nblk bc hb; replace HB := nbs HB hb; (try clear hb); (try clear bL); (try clear dx)) | ((with_reducible refine gate_dst (N := 6) rfl ?_); refine bxe 6 #[.slice none 0 0, .slice none 0 0] 27 ?_; intro bg hg w9 hbox hb; have bh := hbox; have d6 := nge HB hg; have d7 := nge HB hg; have dd := nlt bd hg; have bW := ngt bd hg; have de := nlt bb hg; have bX := ngt bb hg; have df := nlt bc hg; have bY := ngt bc hg; replace bw := nQ bw hb; replace bx := nR bx hb; replace bd := nblk bd hb; replace bb := nblk bb hb; replace bc := nblk bc hb; replace HB := nbs HB hb; clear hb hbox hg) | ((with_reducible refine gate_dst (N := 7) rfl ?_); refine bxe 7 #[.int .i64 0, .bool false, .int .i64 0, .int .i64 0, .int .i64 0, .int .i64 0] 36 ?_; intro ba hg bG hbox hb; have br := hbox; have d8 := nge HB hg; have d9 := nge HB hg; have dg := nlt bd hg; have bM := ngt bd hg; have dh := nlt bb hg; have bN := ngt bb hg; have di := nlt bc hg; have bO := ngt bc hg; have dy := nlt bh hg; have dz := ngt bh hg; replace bw := Aside0.mk (Kd.Q_below (Kd.Q_elderB (nQo bw) ba (Nat.le_of_eq hg.symm)) hb); replace bx := nR bx hb; replace bd := nblk bd hb; replace bb := nblk bb hb; replace bc := nblk bc hb; replace bh := nblk bh hb; replace HB := nbs HB hb; clear hb hbox hg; obtain ⟨bs, bt, dL, _⟩ := Kd.Q_slice bw.out; subst dL; have ea := bW.out; have eb := dd.out; have ec := bX.out; have ed := de.out; have ee := bY.out; have ef := df.out; have eg := dy.out; have eh := dz.out; obtain ⟨ei, ej⟩ := c2e bh; obtain ⟨ek, el⟩ := z2_ bh; obtain ⟨bu, bv, dM⟩ := Kd.R_slice bx.out; subst dM; have em := bM.out; have en := dg.out; have eo := bN.out; have ep := dh.out; have er := bO.out; have es := di.out; obtain ⟨et, eu, ev, ew, ex, ey⟩ := c6e br; obtain ⟨ez, eA, eB, eC, eD, eE⟩ := z6_ br))
  have dj : Aside0 (Kd.Q k36 36 ((((((((bG.setCell ⟨bg, 0, none⟩ (.slice bs bi.length bt)).setCell ⟨bg, 1, none⟩ (.slice bu bj.length bv)).setCell ⟨ba, 0, none⟩ (.int .i64 bk)).setCell ⟨ba, 1, none⟩ (.bool bl)).setCell ⟨ba, 2, none⟩ (.int .i64 bm)).setCell ⟨ba, 3, none⟩ (.int .i64 bn)).setCell ⟨ba, 4, none⟩ (.int .i64 bo)).setCell ⟨ba, 5, none⟩ (.int .i64 bp)) w.heap.size (fun k_ => k_ ≠ bz ∧ k_ ≠ bA ∧ k_ ≠ ba) (.slice bs bi.length bt) bi) := ⟨by (with_reducible repeat (first | apply Kd.Q_alloc | apply Kd.Q_drewN | apply Kd.Q_drew)); exact Kd.Q_mono (hQ6_ (fun _ hk => hk.2) (hQ2_ (fun _ hk => hk.1.2) (Kd.Q_mono (Kd.Q_types bw.out bh.out (by decide)) (fun k_ hk => (⟨hk, hk.1.2⟩ : _ ∧ k_ ≠ ba))))) (fun _ hk => ⟨hk.1.1.1.1.2, ⟨hk.1.1.1.2, hk.1.1.2⟩⟩)⟩; have bI : Aside0 (Kd.R Kd.bool 4 ((((((((bG.setCell ⟨bg, 0, none⟩ (.slice bs bi.length bt)).setCell ⟨bg, 1, none⟩ (.slice bu bj.length bv)).setCell ⟨ba, 0, none⟩ (.int .i64 bk)).setCell ⟨ba, 1, none⟩ (.bool bl)).setCell ⟨ba, 2, none⟩ (.int .i64 bm)).setCell ⟨ba, 3, none⟩ (.int .i64 bn)).setCell ⟨ba, 4, none⟩ (.int .i64 bo)).setCell ⟨ba, 5, none⟩ (.int .i64 bp)) w.heap.size (fun _ => True) (.slice bu bj.length bv) bj) := ⟨by (with_reducible repeat (first | apply Kd.R_alloc | apply Kd.R_drewN | apply Kd.R_drew)); exact Kd.R_mono (hR6_ (fun _ hk => hk.2) (hR2_ (fun _ hk => hk.1.2) (Kd.R_types (Kd.R_types bx.out bh.out (by decide)) br.out (by decide)))) (fun _ hk => trivial)⟩; have dk : Aside0 (((((((((bG.setCell ⟨bg, 0, none⟩ (.slice bs bi.length bt)).setCell ⟨bg, 1, none⟩ (.slice bu bj.length bv)).setCell ⟨ba, 0, none⟩ (.int .i64 bk)).setCell ⟨ba, 1, none⟩ (.bool bl)).setCell ⟨ba, 2, none⟩ (.int .i64 bm)).setCell ⟨ba, 3, none⟩ (.int .i64 bn)).setCell ⟨ba, 4, none⟩ (.int .i64 bo)).setCell ⟨ba, 5, none⟩ (.int .i64 bp)).heap[bK]? = some (.cells #[.slice none 0 0, .slice none 0 0] 27 (0, 0))) := ⟨k6_ dg.out (k2_ dd.out (nb bd))⟩; have dl : Aside0 (((((((((bG.setCell ⟨bg, 0, none⟩ (.slice bs bi.length bt)).setCell ⟨bg, 1, none⟩ (.slice bu bj.length bv)).setCell ⟨ba, 0, none⟩ (.int .i64 bk)).setCell ⟨ba, 1, none⟩ (.bool bl)).setCell ⟨ba, 2, none⟩ (.int .i64 bm)).setCell ⟨ba, 3, none⟩ (.int .i64 bn)).setCell ⟨ba, 4, none⟩ (.int .i64 bo)).setCell ⟨ba, 5, none⟩ (.int .i64 bp)).heap[bz]? = some (.cells #[.int .i64 0, .bool false, .int .i64 0, .int .i64 0, .int .i64 0, .int .i64 0] 36 (0, 0))) := ⟨k6_ dh.out (k2_ de.out (nb bb))⟩; have dm : Aside0 (((((((((bG.setCell ⟨bg, 0, none⟩ (.slice bs bi.length bt)).setCell ⟨bg, 1, none⟩ (.slice bu bj.length bv)).setCell ⟨ba, 0, none⟩ (.int .i64 bk)).setCell ⟨ba, 1, none⟩ (.bool bl)).setCell ⟨ba, 2, none⟩ (.int .i64 bm)).setCell ⟨ba, 3, none⟩ (.int .i64 bn)).setCell ⟨ba, 4, none⟩ (.int .i64 bo)).setCell ⟨ba, 5, none⟩ (.int .i64 bp)).heap[bA]? = some (.cells #[.int .i64 0, .bool false, .int .i64 0, .int .i64 0, .int .i64 0, .int .i64 0] 36 (0, 0))) := ⟨k6_ di.out (k2_ df.out (nb bc))⟩; have dn : Aside0 (((((((((bG.setCell ⟨bg, 0, none⟩ (.slice bs bi.length bt)).setCell ⟨bg, 1, none⟩ (.slice bu bj.length bv)).setCell ⟨ba, 0, none⟩ (.int .i64 bk)).setCell ⟨ba, 1, none⟩ (.bool bl)).setCell ⟨ba, 2, none⟩ (.int .i64 bm)).setCell ⟨ba, 3, none⟩ (.int .i64 bn)).setCell ⟨ba, 4, none⟩ (.int .i64 bo)).setCell ⟨ba, 5, none⟩ (.int .i64 bp)).heap[bg]? = some (.cells #[.slice bs bi.length bt, .slice bu bj.length bv] 27 (0, 0))) := ⟨k6_ dy.out (q2 bh)⟩; have dp : Aside0 (((((((((bG.setCell ⟨bg, 0, none⟩ (.slice bs bi.length bt)).setCell ⟨bg, 1, none⟩ (.slice bu bj.length bv)).setCell ⟨ba, 0, none⟩ (.int .i64 bk)).setCell ⟨ba, 1, none⟩ (.bool bl)).setCell ⟨ba, 2, none⟩ (.int .i64 bm)).setCell ⟨ba, 3, none⟩ (.int .i64 bn)).setCell ⟨ba, 4, none⟩ (.int .i64 bo)).setCell ⟨ba, 5, none⟩ (.int .i64 bp)).heap[ba]? = some (.cells #[.int .i64 bk, .bool bl, .int .i64 bm, .int .i64 bn, .int .i64 bo, .int .i64 bp] 36 (0, 0))) := ⟨p6 br (k2_ dz.out (nb br))⟩; have dq : Aside0 (Below w.heap.size w ((((((((bG.setCell ⟨bg, 0, none⟩ (.slice bs bi.length bt)).setCell ⟨bg, 1, none⟩ (.slice bu bj.length bv)).setCell ⟨ba, 0, none⟩ (.int .i64 bk)).setCell ⟨ba, 1, none⟩ (.bool bl)).setCell ⟨ba, 2, none⟩ (.int .i64 bm)).setCell ⟨ba, 3, none⟩ (.int .i64 bn)).setCell ⟨ba, 4, none⟩ (.int .i64 bo)).setCell ⟨ba, 5, none⟩ (.int .i64 bp))) := ⟨nbe HB⟩; (try clear bw); (try clear bx); (try clear bd); (try clear bb); (try clear bc); (try clear bh); (try clear br); (try clear HB); generalize ((((((((bG.setCell ⟨bg, 0, none⟩ (.slice bs bi.length bt)).setCell ⟨bg, 1, none⟩ (.slice bu bj.length bv)).setCell ⟨ba, 0, none⟩ (.int .i64 bk)).setCell ⟨ba, 1, none⟩ (.bool bl)).setCell ⟨ba, 2, none⟩ (.int .i64 bm)).setCell ⟨ba, 3, none⟩ (.int .i64 bn)).setCell ⟨ba, 4, none⟩ (.int .i64 bo)).setCell ⟨ba, 5, none⟩ (.int .i64 bp)) = dN at dj bI dk dl dm dn dp dq ⊢; have bw := dj; have bx := bI; have bd := dk; have bb := dl; have bc := dm; have bh := dn; have br := dp; have HB := dq; clear dj bI dk dl dm dn dp dq; replace bw := Aside0.mk (Kd.Q_drew bw.out); replace bx := Aside0.mk (Kd.R_drew bx.out); replace bd := Aside0.mk (blk_drew bd.out); replace bb := Aside0.mk (blk_drew bb.out); replace bc := Aside0.mk (blk_drew bc.out); replace bh := Aside0.mk (blk_drew bh.out); replace br := Aside0.mk (blk_drew br.out); replace HB := Aside0.mk (below_drew1 HB.out); refine start_ (n := 10) (S := fun w' => w'.cell? ⟨bg, 0, none⟩ = some (.slice bs bi.length bt) ∧ w'.cell? ⟨bg, 1, none⟩ = some (.slice bu bj.length bv) ∧ w'.cell? ⟨ba, 0, none⟩ = some (.int .i64 bk) ∧ w'.cell? ⟨ba, 1, none⟩ = some (.bool bl) ∧ w'.cell? ⟨ba, 2, none⟩ = some (.int .i64 bm) ∧ w'.cell? ⟨ba, 3, none⟩ = some (.int .i64 bn) ∧ w'.cell? ⟨ba, 4, none⟩ = some (.int .i64 bo) ∧ w'.cell? ⟨ba, 5, none⟩ = some (.int .i64 bp)) (ds := []) #[false, false, false, false, false, false, false, false, false, false] (by kernel_rfl) rfl rfl (c2 bh (c6e br)) (fun hHeld => ?_); refine with_tabW spec_DrawWrite.tab2 spec_DrawWrite.bits2 (fun HT_ HW_ => ?_); generalize dN.drew = eF at bw bx bd bb bc bh br HB hHeld ⊢; refine pure_ (i := 2) (N := some 17) (v := ?_) (a' := ?_) #[false, false, true, false, false, false, false, false, false, false] rfl rfl (any_of HT_.out (by kernel_rfl)) (fun _ _ _ h => h) (Or.inl ⟨by rfl, ?_⟩) ?_ ?_; rotate_left
  · intro w'
    go_simp; (with_reducible rfl)
  rotate_left
  · simp only [Act.put, List.setIfInBounds_toArray, List.set_cons_zero, List.set_cons_succ, i64_w, i32_w]
    rfl
  refine pure_ (i := 3) (N := some 18) (v := ?_) (a' := ?_) #[false, false, true, true, false, false, false, false, false, false] rfl rfl (any_of HT_.out (by kernel_rfl)) (fun _ _ _ h => h) (Or.inl ⟨by rfl, ?_⟩) ?_ ?_; rotate_left
  · intro w'
    go_simp; (with_reducible rfl)
  rotate_left
  · simp only [Act.put, List.setIfInBounds_toArray, List.set_cons_zero, List.set_cons_succ, i64_w, i32_w]
    rfl
  refine take_ (i := 0) (N := some 15) (v := ?_) (a' := ?_) #[true, false, true, true, false, false, false, false, false, false] rfl rfl (take_ofW HT_.out HW_.out (by kernel_rfl)) (fun _ _ _ h => h) (Or.inl ⟨by rfl, ?_⟩) hHeld ?_ ?_; rotate_left
  · rintro w' ⟨s0, s1, s2, s3, s4, s5, s6, s7⟩
    go_simp; (with_reducible rfl)
  rotate_left
  · simp only [Act.put, List.setIfInBounds_toArray, List.set_cons_zero, List.set_cons_succ, i64_w, i32_w]
    rfl
  refine take_ (i := 1) (N := some 16) (v := ?_) (a' := ?_) #[true, true, true, true, false, false, false, false, false, false] rfl rfl (take_ofW HT_.out HW_.out (by kernel_rfl)) (fun _ _ _ h => h) (Or.inl ⟨by rfl, ?_⟩) hHeld ?_ ?_; rotate_left
  · rintro w' ⟨s0, s1, s2, s3, s4, s5, s6, s7⟩
    go_simp; (with_reducible rfl)
  rotate_left
  · simp only [Act.put, List.setIfInBounds_toArray, List.set_cons_zero, List.set_cons_succ, i64_w, i32_w]
    rfl
  refine one_ (i := 4) (N := some 19) #[true, true, true, true, true, false, false, false, false, false] rfl rfl (one_of HT_.out (by kernel_rfl)) (by decide) (fun K hK => ?_); refine goesR Try.func30 (by kernel_rfl) rfl #[.slice A0 l0.length c0] (by rfl) rfl rfl ?_; (with_reducible refine (spec_l1New.calls k _ _ l0 bS bT bU w _ ?side1 ?side2 ?side3 A3.out).mono ?_); (case side1 => exact nbe HB); (case side2 => exact bB.out); (case side3 => exact dw.out); rintro e eG ⟨g518, rfl, hi, hb, hb2⟩; refine ⟨_, rfl, ?_⟩; have HI518 := Aside0.mk (hi); have eH := Aside0.mk (IsS69.ne_blk hi (blk_below (g := bK) (o := .cells #[.slice none 0 0, .slice none 0 0] 27 (0, 0)) (nb bd) hb2) (by decide)); have dO := Aside0.mk (Ne.symm (IsS69.ne_blk hi (blk_below (g := bK) (o := .cells #[.slice none 0 0, .slice none 0 0] 27 (0, 0)) (nb bd) hb2) (by decide))); have eI := Aside0.mk (IsS69.ne_blk hi (blk_below (g := bz) (o := .cells #[.int .i64 0, .bool false, .int .i64 0, .int .i64 0, .int .i64 0, .int .i64 0] 36 (0, 0)) (nb bb) hb2) (by decide)); have dP := Aside0.mk (Ne.symm (IsS69.ne_blk hi (blk_below (g := bz) (o := .cells #[.int .i64 0, .bool false, .int .i64 0, .int .i64 0, .int .i64 0, .int .i64 0] 36 (0, 0)) (nb bb) hb2) (by decide))); have eJ := Aside0.mk (IsS69.ne_blk hi (blk_below (g := bA) (o := .cells #[.int .i64 0, .bool false, .int .i64 0, .int .i64 0, .int .i64 0, .int .i64 0] 36 (0, 0)) (nb bc) hb2) (by decide)); have dQ := Aside0.mk (Ne.symm (IsS69.ne_blk hi (blk_below (g := bA) (o := .cells #[.int .i64 0, .bool false, .int .i64 0, .int .i64 0, .int .i64 0, .int .i64 0] 36 (0, 0)) (nb bc) hb2) (by decide))); have eK := Aside0.mk (IsS69.ne_blk hi (blk_below (g := bg) (o := .cells #[.slice bs bi.length bt, .slice bu bj.length bv] 27 (0, 0)) (nb bh) hb2) (by decide)); have dR := Aside0.mk (Ne.symm (IsS69.ne_blk hi (blk_below (g := bg) (o := .cells #[.slice bs bi.length bt, .slice bu bj.length bv] 27 (0, 0)) (nb bh) hb2) (by decide))); have eL := Aside0.mk (IsS69.ne_blk hi (blk_below (g := ba) (o := .cells #[.int .i64 bk, .bool bl, .int .i64 bm, .int .i64 bn, .int .i64 bo, .int .i64 bp] 36 (0, 0)) (nb br) hb2) (by decide)); have dS := Aside0.mk (Ne.symm (IsS69.ne_blk hi (blk_below (g := ba) (o := .cells #[.int .i64 bk, .bool bl, .int .i64 bm, .int .i64 bn, .int .i64 bo, .int .i64 bp] 36 (0, 0)) (nb br) hb2) (by decide))); replace bw := Aside0.mk (Kd.Q_below (nQo bw) hb2); replace bx := Aside0.mk (Kd.R_below (nRo bx) hb2); replace bd := Aside0.mk (blk_below (g := bK) (o := .cells #[.slice none 0 0, .slice none 0 0] 27 (0, 0)) (nb bd) hb2); replace bb := Aside0.mk (blk_below (g := bz) (o := .cells #[.int .i64 0, .bool false, .int .i64 0, .int .i64 0, .int .i64 0, .int .i64 0] 36 (0, 0)) (nb bb) hb2); replace bc := Aside0.mk (blk_below (g := bA) (o := .cells #[.int .i64 0, .bool false, .int .i64 0, .int .i64 0, .int .i64 0, .int .i64 0] 36 (0, 0)) (nb bc) hb2); replace bh := Aside0.mk (blk_below (g := bg) (o := .cells #[.slice bs bi.length bt, .slice bu bj.length bv] 27 (0, 0)) (nb bh) hb2); replace br := Aside0.mk (blk_below (g := ba) (o := .cells #[.int .i64 bk, .bool bl, .int .i64 bm, .int .i64 bn, .int .i64 bo, .int .i64 bp] 36 (0, 0)) (nb br) hb2); replace HB := Aside0.mk (hb); (try clear hb); refine hK.out _ _ (c2 bh (c6e br)) (fun hHeld => ?_); clear hK K; refine norm_ (a' := ?_) ?_ ?_; rotate_left
  · show Act.put _ (some 19) _ = _
    simp only [Act.put, List.setIfInBounds_toArray, List.set_cons_zero, List.set_cons_succ, i64_w, i32_w]; rfl
  refine one_ (i := 5) (N := some 20) #[true, true, true, true, true, true, false, false, false, false] rfl rfl (one_of HT_.out (by kernel_rfl)) (by decide) (fun K hK => ?_); refine goesR Try.func37 (by kernel_rfl) rfl #[.pointer (some ⟨g518, 0, none⟩)] (by rfl) rfl rfl ?_; (with_reducible refine (spec_l3Draw.calls k g518 bS bT bU b1 b2 b3 b4 b5 b6 dJ dK w _ ?side1 ?side2 A4.out).mono ?_); (case side1 => exact IsS69.n); (case side2 => exact IsS69.nb); rintro e bC ⟨rfl, hi, hb, hk⟩; refine ⟨_, rfl, ?_⟩; replace bd := Aside0.mk (KeepBut.blk hk (g' := bK) (o := .cells #[.slice none 0 0, .slice none 0 0] 27 (0, 0)) (nb bd) dO.out (by simp)); replace bb := Aside0.mk (KeepBut.blk hk (g' := bz) (o := .cells #[.int .i64 0, .bool false, .int .i64 0, .int .i64 0, .int .i64 0, .int .i64 0] 36 (0, 0)) (nb bb) dP.out (by simp)); replace bc := Aside0.mk (KeepBut.blk hk (g' := bA) (o := .cells #[.int .i64 0, .bool false, .int .i64 0, .int .i64 0, .int .i64 0, .int .i64 0] 36 (0, 0)) (nb bc) dQ.out (by simp)); replace bw := Aside0.mk (Kd.Q_mono (Kd.Q_keep (IsS69.apartQ (show IsS69 w _ g518 bS bT bU from IsS69.n) (nQo bw) (by decide)) hk (fun _ h => h.2)) (fun _ h => h.1)); replace bx := Aside0.mk (Kd.R_mono (Kd.R_keep (IsS69.apart (show IsS69 w _ g518 bS bT bU from IsS69.n) (nRo bx) (by decide)) hk (fun _ h => h.2)) (fun _ h => h.1)); replace bh := Aside0.mk (KeepBut.blk hk (g' := bg) (o := .cells #[.slice bs bi.length bt, .slice bu bj.length bv] 27 (0, 0)) (nb bh) dR.out (by simp)); replace br := Aside0.mk (KeepBut.blk hk (g' := ba) (o := .cells #[.int .i64 bk, .bool bl, .int .i64 bm, .int .i64 bn, .int .i64 bo, .int .i64 bp] 36 (0, 0)) (nb br) dS.out (by simp)); replace HB := Aside0.mk (hb); replace HI518 := Aside0.mk (hi); (try clear hb); refine hK.out _ _ (c2 bh (c6e br)) (fun hHeld => ?_); clear hK K; refine norm_ (a' := ?_) ?_ ?_; rotate_left
  · show Act.put _ (some 20) _ = _
    simp only [Act.put, List.setIfInBounds_toArray, List.set_cons_zero, List.set_cons_succ, i64_w, i32_w]; rfl
  refine one_ (i := 6) (N := none) #[true, true, true, true, true, true, true, false, false, false] rfl rfl (one_of HT_.out (by kernel_rfl)) (by decide) (fun K hK => ?_); have hs26 : bC.cell? ⟨bK, 0, none⟩ = some (.slice none 0 0) := (blk_cell bd.out 0).trans rfl; have hfs26 := blk_frozen bd.out 0; have hns26_1 := b8.out; have hns26_2 := da.out; have hns26_3 := bW.out; have hns26_4 := bM.out; have hms26_1 := b7.out; have hms26_2 := b9.out; have hms26_3 := dd.out; have hms26_4 := dg.out; have hs27 : bC.cell? ⟨bK, 1, none⟩ = some (.slice none 0 0) := (blk_cell bd.out 1).trans rfl; have hfs27 := blk_frozen bd.out 1; refine skip_ (w1 := ?_) (by rfl) rfl ?_ ?_; rotate_left
  · go_simp
    rfl
  refine hK.out _ _ ⟨(g2 bW.out hHeld.1), (g2 bW.out hHeld.2.1), (g2 bM.out hHeld.2.2.1), (g2 bM.out hHeld.2.2.2.1), (g2 bM.out hHeld.2.2.2.2.1), (g2 bM.out hHeld.2.2.2.2.2.1), (g2 bM.out hHeld.2.2.2.2.2.2.1), (g2 bM.out hHeld.2.2.2.2.2.2.2)⟩ (fun hHeld => ?_); clear hK K; refine one_ (i := 7) (N := none) #[true, true, true, true, true, true, true, true, false, false] rfl rfl (one_of HT_.out (by kernel_rfl)) (by decide) (fun K hK => ?_); have hs28 : bC.cell? ⟨bz, 0, none⟩ = some (.int .i64 0) := (blk_cell bb.out 0).trans rfl; have hfs28 := blk_frozen bb.out 0; have hns28_0 := b7.out; have hns28_2 := dc.out; have hns28_3 := bX.out; have hns28_4 := bN.out; have hms28_0 := b8.out; have hms28_2 := db.out; have hms28_3 := de.out; have hms28_4 := dh.out; have hs29 : bC.cell? ⟨bz, 1, none⟩ = some (.bool false) := (blk_cell bb.out 1).trans rfl; have hfs29 := blk_frozen bb.out 1; have hs30 : bC.cell? ⟨bz, 2, none⟩ = some (.int .i64 0) := (blk_cell bb.out 2).trans rfl; have hfs30 := blk_frozen bb.out 2; have hs31 : bC.cell? ⟨bz, 3, none⟩ = some (.int .i64 0) := (blk_cell bb.out 3).trans rfl; have hfs31 := blk_frozen bb.out 3; have hs32 : bC.cell? ⟨bz, 4, none⟩ = some (.int .i64 0) := (blk_cell bb.out 4).trans rfl; have hfs32 := blk_frozen bb.out 4; have hs33 : bC.cell? ⟨bz, 5, none⟩ = some (.int .i64 0) := (blk_cell bb.out 5).trans rfl; have hfs33 := blk_frozen bb.out 5; refine skip_ (w1 := ?_) (by rfl) rfl ?_ ?_; rotate_left
  · go_simp
    rfl
  refine hK.out _ _ ⟨(g6 bX.out hHeld.1), (g6 bX.out hHeld.2.1), (g6 bN.out hHeld.2.2.1), (g6 bN.out hHeld.2.2.2.1), (g6 bN.out hHeld.2.2.2.2.1), (g6 bN.out hHeld.2.2.2.2.2.1), (g6 bN.out hHeld.2.2.2.2.2.2.1), (g6 bN.out hHeld.2.2.2.2.2.2.2)⟩ (fun hHeld => ?_); clear hK K; refine pure_ (i := 8) (N := some 4) (v := ?_) (a' := ?_) #[true, true, true, true, true, true, true, true, true, false] rfl rfl (any_of HT_.out (by kernel_rfl)) (fun _ _ _ h => h) (Or.inl ⟨by rfl, ?_⟩) ?_ ?_; rotate_left
  · intro w'
    go_simp; (with_reducible rfl)
  rotate_left
  · simp only [Act.put, List.setIfInBounds_toArray, List.set_cons_zero, List.set_cons_succ, i64_w, i32_w]
    rfl
  refine one_ (i := 9) (N := none) #[true, true, true, true, true, true, true, true, true, true] rfl rfl (one_of HT_.out (by kernel_rfl)) (by decide) (fun K hK => ?_); have hs34 : bC.cell? ⟨bA, 0, none⟩ = some (.int .i64 0) := (blk_cell bc.out 0).trans rfl; have hfs34 := blk_frozen bc.out 0; have hns34_0 := b9.out; have hns34_1 := db.out; have hns34_3 := bY.out; have hns34_4 := bO.out; have hms34_0 := da.out; have hms34_1 := dc.out; have hms34_3 := df.out; have hms34_4 := di.out; have hs35 : bC.cell? ⟨bA, 1, none⟩ = some (.bool false) := (blk_cell bc.out 1).trans rfl; have hfs35 := blk_frozen bc.out 1; have hs36 : bC.cell? ⟨bA, 2, none⟩ = some (.int .i64 0) := (blk_cell bc.out 2).trans rfl; have hfs36 := blk_frozen bc.out 2; have hs37 : bC.cell? ⟨bA, 3, none⟩ = some (.int .i64 0) := (blk_cell bc.out 3).trans rfl; have hfs37 := blk_frozen bc.out 3; have hs38 : bC.cell? ⟨bA, 4, none⟩ = some (.int .i64 0) := (blk_cell bc.out 4).trans rfl; have hfs38 := blk_frozen bc.out 4; have hs39 : bC.cell? ⟨bA, 5, none⟩ = some (.int .i64 0) := (blk_cell bc.out 5).trans rfl; have hfs39 := blk_frozen bc.out 5; refine skip_ (w1 := ?_) ?hw ?hN ?hrun ?_; (case hw => rfl); (case hN => rfl); (case hrun => go_simp; rfl)
  refine hK.out _ _ ⟨(g6 bY.out hHeld.1), (g6 bY.out hHeld.2.1), (g6 bO.out hHeld.2.2.1), (g6 bO.out hHeld.2.2.2.1), (g6 bO.out hHeld.2.2.2.2.1), (g6 bO.out hHeld.2.2.2.2.2.1), (g6 bO.out hHeld.2.2.2.2.2.2.1), (g6 bO.out hHeld.2.2.2.2.2.2.2)⟩ (fun hHeld => ?_); clear hK K; refine done_ (done_of HT_.out (by kernel_rfl)) ?_
  try go_wp2
  refine bodyPost_ret (results_list (rs := [.cell 2 27, .cell 3 36, .tmp 4, .cell 5 36]) rfl (by simp) (.cell bK 27 #[.slice bs bi.length bt, .slice bu bj.length bv] (0, 0) _ rfl (k6_ b9.out (k6_ b7.out (q2 bd))) Try.underlying27 rfl (by kernel_rfl) (.cell bz 36 #[.int .i64 bk, .bool bl, .int .i64 bm, .int .i64 bn, .int .i64 bo, .int .i64 bp] (0, 0) _ rfl (k6_ db.out (p6 bb (k2_ b8.out (nb bb)))) Try.underlying36 rfl (by kernel_rfl) (.tmp (.cell bA 36 #[.int .i64 b1, .bool b2, .int .i64 b3, .int .i64 b4, .int .i64 b5, .int .i64 b6] (0, 0) _ rfl (p6 bc (k6_ dc.out (k2_ da.out (nb bc)))) Try.underlying36 rfl (by kernel_rfl) .nil))))) rfl ?_; exact ⟨_, _, er_, by (with_reducible repeat (first | apply Kd.Q_alloc | apply Kd.Q_drewN | apply Kd.Q_drew)); exact Kd.Q_mono (hQ6_ (fun _ hk => hk.2) (hQ6_ (fun _ hk => hk.1.2) (hQ2_ (fun _ hk => hk.1.1.2) (Kd.Q_mono (Kd.Q_mono (Kd.Q_types bw.out bd.out (by decide)) (fun k_ hk => (⟨hk, hk.1.1⟩ : _ ∧ k_ ≠ bz))) (fun k_ hk => (⟨hk, hk.1.1.2.1⟩ : _ ∧ k_ ≠ bA)))))) (fun _ hk => trivial), by (with_reducible repeat (first | apply Kd.R_alloc | apply Kd.R_drewN | apply Kd.R_drew)); exact Kd.R_mono (hR6_ (fun _ hk => hk.2) (hR6_ (fun _ hk => hk.1.2) (hR2_ (fun _ hk => hk.1.1.2) (Kd.R_types (Kd.R_types (Kd.R_types bx.out bd.out (by decide)) bb.out (by decide)) bc.out (by decide))))) (fun _ hk => trivial), IsS69.nb⟩

-- NOT PRINTED: function 54 (impl_Word_54)

-- NOT PRINTED: function 33 (impl_Word_33)

/-! ### impl_MemoryOk_1: function 34 -/
def impl_MemoryOk_1.f (k : Nat) (a0_0 : Int) (a0_1 : Bool) (a0_2 : Int) (a0_3 : Int) (a0_4 : Int) (a0_5 : Int) : Option (Bool) := (impl_WordOk.f k a0_0 a0_1 a0_2 a0_3 a0_4 a0_5).bind fun bQ => (some (!bQ))
theorem impl_MemoryOk_1.mono : ∀ a0 a1 a2 a3 a4 a5 k, LeO (impl_MemoryOk_1.f k a0 a1 a2 a3 a4 a5) (impl_MemoryOk_1.f (k + 1) a0 a1 a2 a3 a4 a5) := by
  intro a0 a1 a2 a3 a4 a5 k
  unfold impl_MemoryOk_1.f
  repeat' first
      | (with_reducible exact impl_WordOk.mono _ _ _ _ _ _ _)
      | (with_reducible exact LeO.refl _)
      | (with_reducible exact LeO.none _)
      | (with_reducible refine LeO.ite ?_ ?_)
      | (with_reducible refine LeO.bind ?_ (fun _ => ?_))
      | exact impl_WordOk.mono _ _ _ _ _ _ _
      | exact LeO.none _
      | refine LeO.ite ?_ ?_
      | refine LeO.bind ?_ (fun _ => ?_)
set_option maxHeartbeats 8000000 in
set_option maxRecDepth 100000 in
theorem impl_MemoryOk_1.calls (k : Nat) (a0_0 : Int) (a0_1 : Bool) (a0_2 : Int) (a0_3 : Int) (a0_4 : Int) (a0_5 : Int) (r : Bool) (w : World) (h : impl_MemoryOk_1.f k a0_0 a0_1 a0_2 a0_3 a0_4 a0_5 = some r) :
    Calls Try.prog 34 #[.agg #[.int .i64 a0_0, .bool a0_1, .int .i64 a0_2, .int .i64 a0_3, .int .i64 a0_4, .int .i64 a0_5]] w fun e w' => e = .returned (.bool r) ∧ Below w.heap.size w w' := by
  have hu36 := Try.underlying36; have HB := Aside0.mk (Below.refl w.heap.size w); have H : ((impl_WordOk.f k a0_0 a0_1 a0_2 a0_3 a0_4 a0_5).bind fun bQ => (some (!bQ))) = some r := h; clear h; replace H := Option.bind_eq_some_iff.mp H; obtain ⟨bQ, A20, H⟩ := H; replace H : (some (!bQ)) = some r := H; have A2 := Aside0.mk A20; clear A20; obtain rfl := Option.some.inj H
  go_enter Try.func34, Try.ntmps34
  go_wp2_with (first | ((with_reducible refine gate_dst (N := 1) rfl ?_); refine bxe 1 #[.int .i64 a0_0, .bool a0_1, .int .i64 a0_2, .int .i64 a0_3, .int .i64 a0_4, .int .i64 a0_5] 36 ?_; intro eM hg w3 hbox hb; have bZ := hbox; have eN := nge HB hg; have eO := nge HB hg; replace HB := nbs HB hb; clear hb hbox hg; obtain ⟨eP, eQ, eR, eS, eT, eU⟩ := c6e bZ; obtain ⟨eV, eW, eX, eY, eZ, e0⟩ := z6_ bZ) | ((with_reducible refine gate_callee (f := 35) rfl ?_); refine goesM (some 4) rfl rfl Try.func35 (by kernel_rfl) rfl #[.agg #[.int .i64 a0_0, .bool a0_1, .int .i64 a0_2, .int .i64 a0_3, .int .i64 a0_4, .int .i64 a0_5]] rfl ?_; (with_reducible refine (impl_WordOk.calls k a0_0 a0_1 a0_2 a0_3 a0_4 a0_5 bQ _ A2.out).mono ?_); rintro e w5 ⟨rfl, hb⟩; refine ⟨_, rfl, ?_⟩; replace bZ := nblk bZ hb; replace HB := nbs HB hb; (try clear hb)))
  go_ret
  exact ⟨er_, nbe HB⟩

/-! ### CF_impl_MemoryOk_1: function 33 with function 34 -/
def CF_impl_MemoryOk_1.l0 : Nat → List (S36) → Int → Option Int
  | 0, _, _ => none
  | k + 1, l, i => if i < (l.length : Int) then (if 0 ≤ i then (impl_MemoryOk_1.f k (rd_T36 l i).f0 (rd_T36 l i).f1 (rd_T36 l i).f2.f0 (rd_T36 l i).f2.f1 (rd_T36 l i).f2.f2 (rd_T36 l i).f2.f3).bind fun t => (if t = true then some i else CF_impl_MemoryOk_1.l0 k l (wrap64 (i + 1))) else none) else some (-1)
def CF_impl_MemoryOk_1.f (k : Nat) (l0 : List (S36)) (u : Unit) : Option Bool := (CF_impl_MemoryOk_1.l0 k l0 0).bind fun t => some (decide (t ≥ 0))
theorem CF_impl_MemoryOk_1.mono_l : ∀ k, (∀ y0 y1, LeO (CF_impl_MemoryOk_1.l0 k y0 y1) (CF_impl_MemoryOk_1.l0 (k + 1) y0 y1))
  | 0 => fun _ _ r h => by simp [CF_impl_MemoryOk_1.l0] at h
  | k + 1 => by
    have ih0 := CF_impl_MemoryOk_1.mono_l k
    · intro y0 y1
      unfold CF_impl_MemoryOk_1.l0
      repeat' first
      | (with_reducible exact ih0 _ _)
      | (with_reducible exact impl_MemoryOk_1.mono _ _ _ _ _ _ _)
      | (with_reducible exact LeO.refl _)
      | (with_reducible exact LeO.none _)
      | (with_reducible refine LeO.ite ?_ ?_)
      | (with_reducible refine LeO.bind ?_ (fun _ => ?_))
      | exact ih0 _ _
      | exact impl_MemoryOk_1.mono _ _ _ _ _ _ _
      | exact LeO.none _
      | refine LeO.ite ?_ ?_
      | refine LeO.bind ?_ (fun _ => ?_)
theorem CF_impl_MemoryOk_1.mono : ∀ a0 a1 k, LeO (CF_impl_MemoryOk_1.f k a0 a1) (CF_impl_MemoryOk_1.f (k + 1) a0 a1) := by
  intro a0 a1 k; have ih0 := CF_impl_MemoryOk_1.mono_l k
  unfold CF_impl_MemoryOk_1.f
  repeat' first
      | (with_reducible exact ih0 _ _)
      | (with_reducible exact impl_MemoryOk_1.mono _ _ _ _ _ _ _)
      | (with_reducible exact LeO.refl _)
      | (with_reducible exact LeO.none _)
      | (with_reducible refine LeO.ite ?_ ?_)
      | (with_reducible refine LeO.bind ?_ (fun _ => ?_))
      | exact ih0 _ _
      | exact impl_MemoryOk_1.mono _ _ _ _ _ _ _
      | exact LeO.none _
      | refine LeO.ite ?_ ?_
      | refine LeO.bind ?_ (fun _ => ?_)
set_option maxHeartbeats 8000000 in
set_option maxRecDepth 100000 in
theorem CF_impl_MemoryOk_1.idx (k : Nat) (A0 : Option Addr) (c0 : Nat) (l0 : List (S36)) (r : Int) (w : World) (hr0 : Kd.C k36 w A0 l0.length l0) (h : CF_impl_MemoryOk_1.l0 k l0 0 = some r) :
  Calls Try.prog 54 #[.slice A0 l0.length c0, .func (.func 34) #[] #[]] w fun e w' => e = .returned (.int .i64 r) ∧ Below w.heap.size w w' := by
 have hu36 := Try.underlying36; have bB := Aside0.mk hr0; have HB := Aside0.mk (Below.refl w.heap.size w); have H' := Aside0.mk h; clear hr0 h
 go_enter Try.func54, Try.ntmps54
 go_wp2
 go_loopg [5, 8] k (fun kq v5 v8 w' => ∃ x8 : Int, v8 = .int .i64 x8 ∧ Aside0 (CF_impl_MemoryOk_1.l0 kq l0 x8 = some r) ∧ Aside0 (kq ≤ k) ∧ Aside0 (Below w.heap.size w w'))
 case atStart => exact ⟨0, rfl, H', ⟨Nat.le_refl _⟩, HB⟩
 case round =>
  clear H'; obtain ⟨x8, rfl, HA, HK, HB⟩ := hrel
  cases gk with
  | zero => exact absurd HA.out (by simp [CF_impl_MemoryOk_1.l0])
  | succ k1 =>
   have H := HA.out; clear HA; simp only [CF_impl_MemoryOk_1.l0] at H
   by_cases c1 : x8 < (l0.length : Int)
   · rw [if_pos c1] at H
     by_cases c2 : 0 ≤ x8
     · rw [if_pos c2] at H
       replace H := Option.bind_eq_some_iff.mp H; obtain ⟨t, A80, H⟩ := H; have A8 := Aside0.mk A80; clear A80; obtain ⟨e2, e1, hx_0, hx_1, hx_2, hx_3, hx_4, hx_5⟩ := at_T36 bB.out x8 c2 c1
       cases e1
       replace hx_0 := (HB.out.cell (World.block_lt_of_cell? w _ hx_0)).trans hx_0; replace hx_1 := (HB.out.cell (World.block_lt_of_cell? w _ hx_1)).trans hx_1; replace hx_2 := (HB.out.cell (World.block_lt_of_cell? w _ hx_2)).trans hx_2; replace hx_3 := (HB.out.cell (World.block_lt_of_cell? w _ hx_3)).trans hx_3; replace hx_4 := (HB.out.cell (World.block_lt_of_cell? w _ hx_4)).trans hx_4; replace hx_5 := (HB.out.cell (World.block_lt_of_cell? w _ hx_5)).trans hx_5; have c1b : decide (x8 < (l0.length : Int)) = true := decide_eq_true c1; have c2b : decide (0 ≤ x8) = true := decide_eq_true c2; replace c2 := eq_true c2; replace c1 := eq_true c1
       cases t with
       | true =>
         obtain rfl : x8 = r := by simpa using H
         clear H
         go_wp2_with (first | (go_at_call 34; refine (impl_MemoryOk_1.calls k1 (rd_T36 l0 x8).f0 (rd_T36 l0 x8).f1 (rd_T36 l0 x8).f2.f0 (rd_T36 l0 x8).f2.f1 (rd_T36 l0 x8).f2.f2 (rd_T36 l0 x8).f2.f3 true _ A8.out).mono ?_; rintro e w' ⟨rfl, hb⟩))
         go_ret
         exact ⟨rfl, below_step HB.out hb⟩
       | false =>
         have H' : Aside0 (CF_impl_MemoryOk_1.l0 k1 l0 (wrap64 (x8 + 1)) = some r) := ⟨by simpa using H⟩; clear H
         go_wp2_with (first | (go_at_call 34; refine (impl_MemoryOk_1.calls k1 (rd_T36 l0 x8).f0 (rd_T36 l0 x8).f1 (rd_T36 l0 x8).f2.f0 (rd_T36 l0 x8).f2.f1 (rd_T36 l0 x8).f2.f2 (rd_T36 l0 x8).f2.f3 false _ A8.out).mono ?_; rintro e w' ⟨rfl, hb⟩))
         go_roundg k1
         case measure => have := HK.out; omega
         case rel => exact ⟨_, rfl, H', ⟨by have := HK.out; omega⟩, ⟨below_step HB.out hb⟩⟩
     · rw [if_neg c2] at H
       exact absurd H (by simp)
   · rw [if_neg c1] at H
     obtain rfl : -1 = r := by simpa using H
     clear H; go_wp2
     go_ret
     exact ⟨rfl, HB.out⟩
set_option maxHeartbeats 8000000 in
set_option maxRecDepth 100000 in
theorem CF_impl_MemoryOk_1.calls (k : Nat) (A0 : Option Addr) (c0 : Nat) (l0 : List (S36)) (u : Unit) (r : Bool) (w : World) (hr0 : Kd.C k36 w A0 l0.length l0) (hc0 : l0.length ≤ c0) (h : CF_impl_MemoryOk_1.f k l0 u = some r) :
  Calls Try.prog 33 #[.slice A0 l0.length c0, .func (.func 34) #[] #[]] w fun e w' => e = .returned (.bool r) ∧ Below w.heap.size w w' := by
 obtain ⟨t, A80, H⟩ := Option.bind_eq_some_iff.mp h; have A8 := Aside0.mk A80; have bB := Aside0.mk hr0; obtain rfl : decide (t ≥ 0) = r := by simpa using H
 clear A80 H h hr0 hc0
 go_enter Try.func33, Try.ntmps33
 go_wp2_with (first | (go_at_call 54; refine (CF_impl_MemoryOk_1.idx k A0 c0 l0 t _ bB.out A8.out).mono ?_; rintro e w' ⟨rfl, hb⟩))
 go_ret
 exact ⟨rfl, hb⟩

/-! ### impl_MemoryOk: function 12 -/
def impl_MemoryOk.f (k : Nat) (l0_0 : List (S36)) (l0_1 : List Bool) : Option (Bool) := if (l0_0.length : Int) = 24 then (if (l0_1.length : Int) = 24 then ((CF_impl_MemoryOk_1.f k l0_0 ()).bind fun bR => (some (!bR))) else (some false)) else (some false)
theorem impl_MemoryOk.mono : ∀ a0 a1 k, LeO (impl_MemoryOk.f k a0 a1) (impl_MemoryOk.f (k + 1) a0 a1) := by
  intro a0 a1 k
  unfold impl_MemoryOk.f
  repeat' first
      | (with_reducible exact CF_impl_MemoryOk_1.mono _ _ _)
      | (with_reducible exact LeO.refl _)
      | (with_reducible exact LeO.none _)
      | (with_reducible refine LeO.ite ?_ ?_)
      | (with_reducible refine LeO.bind ?_ (fun _ => ?_))
      | exact CF_impl_MemoryOk_1.mono _ _ _
      | exact LeO.none _
      | refine LeO.ite ?_ ?_
      | refine LeO.bind ?_ (fun _ => ?_)
set_option maxHeartbeats 8000000 in
set_option maxRecDepth 100000 in
theorem impl_MemoryOk.calls (k : Nat) (A0_0 : Option Addr) (c0_0 : Nat) (l0_0 : List (S36)) (A0_1 : Option Addr) (c0_1 : Nat) (l0_1 : List Bool) (r : Bool) (w : World) (hr0_0 : Kd.C k36 w A0_0 l0_0.length l0_0) (hc0_0 : l0_0.length ≤ c0_0) (hr0_1 : Kd.C Kd.bool w A0_1 l0_1.length l0_1) (hc0_1 : l0_1.length ≤ c0_1) (h : impl_MemoryOk.f k l0_0 l0_1 = some r) :
    Calls Try.prog 12 #[.agg #[.slice A0_0 l0_0.length c0_0, .slice A0_1 l0_1.length c0_1]] w fun e w' => e = .returned (.bool r) ∧ Below w.heap.size w w' := by
  have hu27 := Try.underlying27; have dr := Aside0.mk hr0_0; have dt := Aside0.mk hc0_0; clear hr0_0 hc0_0; have dA := Aside0.mk hr0_1; have dB := Aside0.mk hc0_1; clear hr0_1 hc0_1; have HB := Aside0.mk (Below.refl w.heap.size w); have H : (if (l0_0.length : Int) = 24 then (if (l0_1.length : Int) = 24 then ((CF_impl_MemoryOk_1.f k l0_0 ()).bind fun bR => (some (!bR))) else (some false)) else (some false)) = some r := h; clear h
  by_cases c2 : (l0_0.length : Int) = 24
  · rw [if_pos c2] at H
    have c2b0 : ((l0_0.length : Int) == 24) = true := beq_iff_eq.mpr c2; have c2b1 : ((l0_0.length : Int) != 24) = false := bne_eq_false_iff_eq.mpr c2; clear c2
    by_cases c3 : (l0_1.length : Int) = 24
    · rw [if_pos c3] at H
      have c3b0 : ((l0_1.length : Int) == 24) = true := beq_iff_eq.mpr c3; have c3b1 : ((l0_1.length : Int) != 24) = false := bne_eq_false_iff_eq.mpr c3; clear c3; replace H := Option.bind_eq_some_iff.mp H; obtain ⟨bR, A40, H⟩ := H; replace H : (some (!bR)) = some r := H; have A4 := Aside0.mk A40; clear A40; obtain rfl := Option.some.inj H
      go_enter Try.func12, Try.ntmps12
      go_wp2_with (first | ((with_reducible refine gate_dst (N := 1) rfl ?_); (try (refine gate_guard (by rfl) ?_; dsimp only)); refine bxe 1 #[.slice A0_0 l0_0.length c0_0, .slice A0_1 l0_1.length c0_1] 27 ?_; intro dC hg w5 hbox hb; have bH := hbox; have dD := nge HB hg; have dE := nge HB hg; replace HB := nbs HB hb; clear hb hbox hg; obtain ⟨e3, e4⟩ := c2e bH; obtain ⟨e5, e6⟩ := z2_ bH) | (go_at_call 33; (with_reducible refine (CF_impl_MemoryOk_1.calls k _ _ l0_0 () bR _ ?side1 ?side2 A4.out).mono ?_); (case side1 => exact nCb dr HB); (case side2 => exact dt.out); rintro e w7 ⟨rfl, hb⟩; replace bH := nblk bH hb; replace HB := nbs HB hb; (try clear hb)))
      go_ret
      exact ⟨er_, nbe HB⟩
    · rw [if_neg c3] at H
      have c3b0 : ((l0_1.length : Int) == 24) = false := beq_eq_false_iff_ne.mpr c3; have c3b1 : ((l0_1.length : Int) != 24) = true := bne_iff_ne.mpr c3; obtain rfl := Option.some.inj H
      go_enter Try.func12, Try.ntmps12
      go_wp2_with (first | ((with_reducible refine gate_dst (N := 1) rfl ?_); (try (refine gate_guard (by rfl) ?_; dsimp only)); refine bxe 1 #[.slice A0_0 l0_0.length c0_0, .slice A0_1 l0_1.length c0_1] 27 ?_; intro dC hg w8 hbox hb; have bH := hbox; have dD := nge HB hg; have dE := nge HB hg; replace HB := nbs HB hb; clear hb hbox hg; obtain ⟨e7, e8⟩ := c2e bH; obtain ⟨e9, ga⟩ := z2_ bH))
      go_ret
      exact ⟨er_, nbe HB⟩
  · rw [if_neg c2] at H
    have c2b0 : ((l0_0.length : Int) == 24) = false := beq_eq_false_iff_ne.mpr c2; have c2b1 : ((l0_0.length : Int) != 24) = true := bne_iff_ne.mpr c2; obtain rfl := Option.some.inj H
    go_enter Try.func12, Try.ntmps12
    go_wp2_with (first | ((with_reducible refine gate_dst (N := 1) rfl ?_); (try (refine gate_guard (by rfl) ?_; dsimp only)); refine bxe 1 #[.slice A0_0 l0_0.length c0_0, .slice A0_1 l0_1.length c0_1] 27 ?_; intro dC hg bG hbox hb; have bH := hbox; have dD := nge HB hg; have dE := nge HB hg; replace HB := nbs HB hb; clear hb hbox hg; obtain ⟨gb, gc⟩ := c2e bH; obtain ⟨gd, gf⟩ := z2_ bH))
    go_ret
    exact ⟨er_, nbe HB⟩

/-! ### Clone_Word: function 50 -/
def Clone_Word.f (l0 : List (S36)) : Option (List (S36)) := if l0.length < 2932031007402 then some l0 else none
set_option maxHeartbeats 8000000 in
set_option maxRecDepth 100000 in
theorem Clone_Word.calls (A0 : Option Addr) (c0 : Nat) (l0 : List (S36)) (r : List (S36)) (w : World) (hr0 : Kd.C k36 w A0 l0.length l0) (hc0 : l0.length ≤ c0) (h : Clone_Word.f l0 = some r) :
  Calls Try.prog 50 #[.slice A0 l0.length c0] w fun e w' => ∃ v0_ : Value, e = .returned (v0_) ∧ Kd.R k36 36 w' w.heap.size (fun _ => True) v0_ r ∧ Below w.heap.size w w' := by
 have HL : Aside0 (l0.length < 2932031007402) ∧ l0 = r := by
  unfold Clone_Word.f at h
  by_cases c : l0.length < 2932031007402
  · rw [if_pos c] at h
    exact ⟨⟨c⟩, by simpa using h⟩
  · rw [if_neg c] at h
    exact absurd h (by simp)
 obtain ⟨HL, rfl⟩ := HL; clear h; have bB := Aside0.mk hr0; clear hr0 hc0; have q_ : ∀ (w : World) (a : Option Addr) (n c n' c' : Nat), (binOp .eql 24 (.slice a n c) (.slice none n' c')).run Try.prog w = .ok (.bool a.isNone) w := fun w a n c n' c' => Lib.run_eql_slice_nil w _ _ a n c n' c' Try.underlying24
 cases A0 with
 | none =>
  have hl : l0 = [] := by
   cases l0 with
   | nil => rfl
   | cons x xs =>
    obtain ⟨ad, e, _⟩ := bB.out.2.2 (by simp); cases e
  subst hl; clear bB HL
  go_enter Try.func50, Try.ntmps50
  go_wp2
  go_ret
  exact ⟨_, rfl, Kd.R_nil _ _ _ _ _, Below.refl _ _⟩
 | some ad =>
  have HB := Aside0.mk (Below.refl w.heap.size w)
  go_enter Try.func50, Try.ntmps50
  go_wp2_with (first | ((with_reducible refine gate_dst (N := 5) rfl ?_); refine Kd.R_lit k36 _ 36 ?hg (N := 5) ?hd (xs := ([] : List (S36))) (inner := []) (ok := fun _ => True) (okp := fun _ => True) ?hr ?hp (fun _ hk => hk) trivial (Below.refl _ _) (Nat.le_refl _) (by simp) ?_; (case hd => rfl); (case hg => rfl); (case hr => first | (go_simp; done) | (go_simp; rfl)); (case hp => exact (Reps.none _ _)); intro v2 w2 ho hb hg_ hnew_; clear hg_ hnew_; have HO := Aside0.mk ho; have bI := Aside0.mk (below_step HB.out hb); clear ho HB; have HB := bI; clear bI; clear hb) | ((with_reducible refine gate_builtin (b := .append) (xs := #[.tmp 5, .tmp 6]) rfl ?_); at_builtin; refine Kd.R_append_rows k36 (w0 := w) w.heap.size rfl (.tmp 5) (.tmp 6) 24 36 (.agg #[(.int .i64 0), (.bool false), (.int .i64 0), (.int .i64 0), (.int .i64 0), (.int .i64 0)]) 48 rfl Try.underlying24 info36 rfl (by decide) (by omega) v2 ([] : List (S36)) l0 _ _ _ (fun _ => True) (fun _ => False) rfl rfl ?aO ?aR (fun _ _ h => h) (fun _ h => h.elim) ?aF ?aB ?aS ?aL ?_; (case aR => exact (Kd.C_below bB.out HB.out)); (case aB => exact HB.out); (case aF => exact (fun _ _ => trivial)); (case aO => exact HO.out); (case aS => exact below_size HB.out); (case aL => have := HL.out; simp only [List.length_nil]; omega); intro v3 w3 ho hb hg hat; clear hg hat; simp only [List.nil_append] at ho))
  go_ret
  exact ⟨_, rfl, ho, hb⟩

/-! ### Clone_bool: function 51 -/
def Clone_bool.f (l0 : List Bool) : Option (List Bool) := if l0.length < 140737488355328 then some l0 else none
set_option maxHeartbeats 8000000 in
set_option maxRecDepth 100000 in
theorem Clone_bool.calls (A0 : Option Addr) (c0 : Nat) (l0 : List Bool) (r : List Bool) (w : World) (hr0 : Kd.C Kd.bool w A0 l0.length l0) (hc0 : l0.length ≤ c0) (h : Clone_bool.f l0 = some r) :
  Calls Try.prog 51 #[.slice A0 l0.length c0] w fun e w' => ∃ v0_ : Value, e = .returned (v0_) ∧ Kd.R Kd.bool 4 w' w.heap.size (fun _ => True) v0_ r ∧ Below w.heap.size w w' := by
 have HL : Aside0 (l0.length < 140737488355328) ∧ l0 = r := by
  unfold Clone_bool.f at h
  by_cases c : l0.length < 140737488355328
  · rw [if_pos c] at h
    exact ⟨⟨c⟩, by simpa using h⟩
  · rw [if_neg c] at h
    exact absurd h (by simp)
 obtain ⟨HL, rfl⟩ := HL; clear h; have bB := Aside0.mk hr0; clear hr0 hc0; have q_ : ∀ (w : World) (a : Option Addr) (n c n' c' : Nat), (binOp .eql 25 (.slice a n c) (.slice none n' c')).run Try.prog w = .ok (.bool a.isNone) w := fun w a n c n' c' => Lib.run_eql_slice_nil w _ _ a n c n' c' Try.underlying25
 cases A0 with
 | none =>
  have hl : l0 = [] := by
   cases l0 with
   | nil => rfl
   | cons x xs =>
    obtain ⟨ad, e, _⟩ := bB.out.2.2 (by simp); cases e
  subst hl; clear bB HL
  go_enter Try.func51, Try.ntmps51
  go_wp2
  go_ret
  exact ⟨_, rfl, Kd.R_nil _ _ _ _ _, Below.refl _ _⟩
 | some ad =>
  have HB := Aside0.mk (Below.refl w.heap.size w)
  go_enter Try.func51, Try.ntmps51
  go_wp2_with (first | ((with_reducible refine gate_dst (N := 5) rfl ?_); refine Kd.R_lit Kd.bool _ 4 ?hg (N := 5) ?hd (xs := ([] : List Bool)) (inner := []) (ok := fun _ => True) (okp := fun _ => True) ?hr ?hp (fun _ hk => hk) trivial (Below.refl _ _) (Nat.le_refl _) (by simp) ?_; (case hd => rfl); (case hg => rfl); (case hr => first | (go_simp; done) | (go_simp; rfl)); (case hp => exact (Reps.none _ _)); intro v2 w2 ho hb hg_ hnew_; clear hg_ hnew_; have HO := Aside0.mk ho; have bI := Aside0.mk (below_step HB.out hb); clear ho HB; have HB := bI; clear bI; clear hb) | ((with_reducible refine gate_builtin (b := .append) (xs := #[.tmp 5, .tmp 6]) rfl ?_); at_builtin; refine Kd.R_append_rows Kd.bool (w0 := w) w.heap.size rfl (.tmp 5) (.tmp 6) 25 4 (.bool false) 1 rfl Try.underlying25 info4 rfl (by decide) (by omega) v2 ([] : List Bool) l0 _ _ _ (fun _ => True) (fun _ => False) rfl rfl ?aO ?aR (fun _ _ h => h) (fun _ h => h.elim) ?aF ?aB ?aS ?aL ?_; (case aR => exact (Kd.C_below bB.out HB.out)); (case aB => exact HB.out); (case aF => exact (fun _ _ => trivial)); (case aO => exact HO.out); (case aS => exact below_size HB.out); (case aL => have := HL.out; simp only [List.length_nil]; omega); intro v3 w3 ho hb hg hat; clear hg hat; simp only [List.nil_append] at ho))
  go_ret
  exact ⟨_, rfl, ho, hb⟩

/-! ### impl_cloneMemory: function 26 -/
def impl_cloneMemory.f (l0_0 : List (S36)) (l0_1 : List Bool) : Option ((List (S36)) × List Bool) := (Clone_Word.f l0_0).bind fun bP => ((Clone_bool.f l0_1).bind fun bJ => (some (bP, bJ)))
def impl_cloneMemory.T1 : Bool × List (List Nat × List Nat) := (true, [([], []), ([0], [0]), ([1], [1]), ([], []), ([3], [3]), ([4, 2], [4]), ([2, 5], [2, 5]), ([6, 5, 0, 1, 2, 3, 4, 5, 6], [6])])
def impl_cloneMemory.B1 : List Nat := [0, 1, 3, 0, 8, 31, 63, 127]
theorem impl_cloneMemory.tab1 : rtab .any (opsOf Try.f26 1) = impl_cloneMemory.T1 := by kernel_rfl
theorem impl_cloneMemory.bits1 : waitsOk impl_cloneMemory.T1.2 impl_cloneMemory.B1 = true := by kernel_rfl
set_option maxHeartbeats 8000000 in
set_option maxRecDepth 100000 in
theorem impl_cloneMemory.calls (A0_0 : Option Addr) (c0_0 : Nat) (l0_0 : List (S36)) (A0_1 : Option Addr) (c0_1 : Nat) (l0_1 : List Bool) (r1 : List (S36)) (r2 : List Bool) (w : World) (hr0_0 : Kd.C k36 w A0_0 l0_0.length l0_0) (hc0_0 : l0_0.length ≤ c0_0) (hr0_1 : Kd.C Kd.bool w A0_1 l0_1.length l0_1) (hc0_1 : l0_1.length ≤ c0_1) (h : impl_cloneMemory.f l0_0 l0_1 = some (r1, r2)) :
    Calls Try.prog 26 #[.agg #[.slice A0_0 l0_0.length c0_0, .slice A0_1 l0_1.length c0_1]] w fun e w' => ∃ v0_ v1_ : Value, e = .returned (.agg #[v0_, v1_]) ∧ Kd.R k36 36 w' w.heap.size (fun _ => True) v0_ r1 ∧ Kd.R Kd.bool 4 w' w.heap.size (fun _ => True) v1_ r2 ∧ Below w.heap.size w w' := by
  have hu27 := Try.underlying27; have dr := Aside0.mk hr0_0; have dt := Aside0.mk hc0_0; clear hr0_0 hc0_0; have dA := Aside0.mk hr0_1; have dB := Aside0.mk hc0_1; clear hr0_1 hc0_1; have HB := Aside0.mk (Below.refl w.heap.size w); have H : ((Clone_Word.f l0_0).bind fun bP => ((Clone_bool.f l0_1).bind fun bJ => (some (bP, bJ)))) = some (r1, r2) := h; clear h; replace H := Option.bind_eq_some_iff.mp H; obtain ⟨bP, A20, H⟩ := H; replace H : ((Clone_bool.f l0_1).bind fun bJ => (some (bP, bJ))) = some (r1, r2) := H; have A2 := Aside0.mk A20; clear A20; replace H := Option.bind_eq_some_iff.mp H; obtain ⟨bJ, A30, H⟩ := H; replace H : (some (bP, bJ)) = some (r1, r2) := H; have A3 := Aside0.mk A30; clear A30; simp only [Option.some.injEq, Prod.mk.injEq] at H; obtain ⟨rfl, rfl⟩ := H
  go_enter Try.func26, Try.ntmps26
  try go_wp2_with (first | ((with_reducible refine gate_dst (N := 1) rfl ?_); refine bxe 1 #[.slice A0_0 l0_0.length c0_0, .slice A0_1 l0_1.length c0_1] 27 ?_; intro dF hg w4 hbox hb; have bD := hbox; have gg := nge HB hg; have gh := nge HB hg; replace HB := nbs HB hb; clear hb hbox hg) | ((with_reducible refine gate_dst (N := 2) rfl ?_); refine bxe 2 #[.slice none 0 0, .slice none 0 0] 27 ?_; intro du hg w5 hbox hb; have bE := hbox; have gi := nge HB hg; have gj := nge HB hg; have dv := nlt bD hg; have dT := ngt bD hg; replace bD := nblk bD hb; replace HB := nbs HB hb; clear hb hbox hg))
  replace bD := Aside0.mk (blk_drew bD.out); replace bE := Aside0.mk (blk_drew bE.out); replace HB := Aside0.mk (below_drew1 HB.out); refine start_ (n := 8) (S := fun w' => w'.cell? ⟨dF, 0, none⟩ = some (.slice A0_0 l0_0.length c0_0) ∧ w'.cell? ⟨dF, 1, none⟩ = some (.slice A0_1 l0_1.length c0_1)) (ds := []) #[false, false, false, false, false, false, false, false] (by kernel_rfl) rfl rfl (c2e bD) (fun hHeld => ?_); refine with_tabW impl_cloneMemory.tab1 impl_cloneMemory.bits1 (fun HT_ HW_ => ?_); generalize w5.drew = w6 at bD bE HB hHeld ⊢; refine pure_ (i := 0) (N := some 3) (v := ?_) (a' := ?_) #[true, false, false, false, false, false, false, false] rfl rfl (any_of HT_.out (by kernel_rfl)) (fun _ _ _ h => h) (Or.inl ⟨by rfl, ?_⟩) ?_ ?_; rotate_left
  · intro w'
    go_simp; (with_reducible rfl)
  rotate_left
  · simp only [Act.put, List.setIfInBounds_toArray, List.set_cons_zero, List.set_cons_succ, i64_w, i32_w]
    rfl
  refine pure_ (i := 3) (N := some 6) (v := ?_) (a' := ?_) #[true, false, false, true, false, false, false, false] rfl rfl (any_of HT_.out (by kernel_rfl)) (fun _ _ _ h => h) (Or.inl ⟨by rfl, ?_⟩) ?_ ?_; rotate_left
  · intro w'
    go_simp; (with_reducible rfl)
  rotate_left
  · simp only [Act.put, List.setIfInBounds_toArray, List.set_cons_zero, List.set_cons_succ, i64_w, i32_w]
    rfl
  refine take_ (i := 1) (N := some 4) (v := ?_) (a' := ?_) #[true, true, false, true, false, false, false, false] rfl rfl (take_ofW HT_.out HW_.out (by kernel_rfl)) (fun _ _ _ h => h) (Or.inl ⟨by rfl, ?_⟩) hHeld ?_ ?_; rotate_left
  · rintro w' ⟨s0, s1⟩
    go_simp; (with_reducible rfl)
  rotate_left
  · simp only [Act.put, List.setIfInBounds_toArray, List.set_cons_zero, List.set_cons_succ, i64_w, i32_w]
    rfl
  refine take_ (i := 4) (N := some 7) (v := ?_) (a' := ?_) #[true, true, false, true, true, false, false, false] rfl rfl (take_ofW HT_.out HW_.out (by kernel_rfl)) (fun _ _ _ h => h) (Or.inl ⟨by rfl, ?_⟩) hHeld ?_ ?_; rotate_left
  · rintro w' ⟨s0, s1⟩
    go_simp; (with_reducible rfl)
  rotate_left
  · simp only [Act.put, List.setIfInBounds_toArray, List.set_cons_zero, List.set_cons_succ, i64_w, i32_w]
    rfl
  refine one_ (i := 2) (N := some 5) #[true, true, true, true, true, false, false, false] rfl rfl (one_of HT_.out (by kernel_rfl)) (by decide) (fun K hK => ?_); refine goesR Try.func50 (by kernel_rfl) rfl #[.slice A0_0 l0_0.length c0_0] (by rfl) rfl rfl ?_; (with_reducible refine (Clone_Word.calls _ _ l0_0 bP _ ?side1 ?side2 A2.out).mono ?_); (case side1 => exact nCb dr HB); (case side2 => exact dt.out); rintro e w7 ⟨gl, rfl, bL, hb⟩; refine ⟨_, rfl, ?_⟩; have b0 := Aside0.mk (Kd.R_lower bL (bsz HB)); replace bD := nblk bD hb; replace bE := nblk bE hb; replace HB := nbs HB hb; (try clear hb); (try clear bL); refine hK.out _ _ (c2e bD) (fun hHeld => ?_); clear hK K; refine norm_ (a' := ?_) ?_ ?_; rotate_left
  · show Act.put _ (some 5) _ = _
    simp only [Act.put, List.setIfInBounds_toArray, List.set_cons_zero, List.set_cons_succ, i64_w, i32_w]; rfl
  refine one_ (i := 5) (N := some 8) #[true, true, true, true, true, true, false, false] rfl rfl (one_of HT_.out (by kernel_rfl)) (by decide) (fun K hK => ?_); refine goesR Try.func51 (by kernel_rfl) rfl #[.slice A0_1 l0_1.length c0_1] (by rfl) rfl rfl ?_; (with_reducible refine (Clone_bool.calls _ _ l0_1 bJ _ ?side1 ?side2 A3.out).mono ?_); (case side1 => exact nCb dA HB); (case side2 => exact dB.out); rintro e w8 ⟨gm, rfl, bL, hb⟩; refine ⟨_, rfl, ?_⟩; have dG := Aside0.mk (Kd.R_lower bL (bsz HB)); replace b0 := nR b0 hb; replace bD := nblk bD hb; replace bE := nblk bE hb; replace HB := nbs HB hb; (try clear hb); (try clear bL); obtain ⟨dU, dV, dH⟩ := Kd.R_slice dG.out; (first | subst dH | (injection dH with f1_ f2_ f3_; have f4_ := f1_.symm; have f5_ := f3_.symm; clear f1_ f2_ f3_; subst f4_; subst f5_)); obtain ⟨dW, dX, dI⟩ := Kd.R_slice b0.out; (first | subst dI | (injection dI with f1_ f2_ f3_; have f4_ := f1_.symm; have f5_ := f3_.symm; clear f1_ f2_ f3_; subst f4_; subst f5_)); refine hK.out _ _ (c2e bD) (fun hHeld => ?_); clear hK K; refine norm_ (a' := ?_) ?_ ?_; rotate_left
  · show Act.put _ (some 8) _ = _
    simp only [Act.put, List.setIfInBounds_toArray, List.set_cons_zero, List.set_cons_succ, i64_w, i32_w]; rfl
  refine pure_ (i := 6) (N := some 9) (v := ?_) (a' := ?_) #[true, true, true, true, true, true, true, false] rfl rfl (any_of HT_.out (by kernel_rfl)) (fun _ _ _ h => h) (Or.inl ⟨by rfl, ?_⟩) ?_ ?_; rotate_left
  · intro w'
    go_simp; (with_reducible rfl)
  rotate_left
  · simp only [Act.put, List.setIfInBounds_toArray, List.set_cons_zero, List.set_cons_succ, i64_w, i32_w]
    rfl
  refine one_ (i := 7) (N := none) #[true, true, true, true, true, true, true, true] rfl rfl (one_of HT_.out (by kernel_rfl)) (by decide) (fun K hK => ?_); have hs11 : w8.cell? ⟨du, 0, none⟩ = some (.slice none 0 0) := (blk_cell bE.out 0).trans rfl; have hfs11 := blk_frozen bE.out 0; have hns11_0 := dv.out; have hms11_0 := dT.out; have hs12 : w8.cell? ⟨du, 1, none⟩ = some (.slice none 0 0) := (blk_cell bE.out 1).trans rfl; have hfs12 := blk_frozen bE.out 1; refine skip_ (w1 := ?_) (by rfl) rfl ?_ ?_; rotate_left
  · go_simp
    rfl
  refine hK.out _ _ ⟨(g2 dv.out hHeld.1), (g2 dv.out hHeld.2)⟩ (fun hHeld => ?_); clear hK K; refine done_ (done_of HT_.out (by kernel_rfl)) ?_
  try go_wp2
  refine bodyPost_ret (results_cell_row rfl _ _ du 27 #[.slice dW bP.length dX, .slice dU bJ.length dV] (0, 0) _ rfl (q2 bE) Try.underlying27 rfl (by kernel_rfl)) rfl ?_; exact ⟨_, _, er_, by (with_reducible repeat (first | apply Kd.R_alloc | apply Kd.R_drewN | apply Kd.R_drew)); exact Kd.R_mono (eR2_ (Kd.R_types b0.out bE.out (by decide))) (fun _ hk => trivial), by (with_reducible repeat (first | apply Kd.R_alloc | apply Kd.R_drewN | apply Kd.R_drew)); exact Kd.R_mono (eR2_ (Kd.R_types dG.out bE.out (by decide))) (fun _ hk => trivial), nbe HB⟩

end Go.Proofs.Ytednioabjiabiaa.PFnMemory
