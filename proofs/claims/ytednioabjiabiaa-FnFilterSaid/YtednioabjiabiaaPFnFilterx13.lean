-- Written by a program of this session (wip/patch.py turns a copy of the kit's print): the functions that the law reaches, and their walks.
import Derived.Test.YtednioabjiabiaaPFnFilterx0
import Derived.Test.YtednioabjiabiaaPFnFilterx3
import Derived.Test.YtednioabjiabiaaPFnFilterx6
import Derived.Test.YtednioabjiabiaaPFnFilterx8
import Derived.Test.YtednioabjiabiaaPFnFilterx9
import Derived.Test.YtednioabjiabiaaCFnFilter
namespace Go.Proofs.Ytednioabjiabiaa.PFnFilter
open Go.RowKit Go.Proofs.YtednioabjiabiaaW.PrintWords Go.Proofs.YtednioabjiabiaaW.PrintLast Go.Proofs.YtednioabjiabiaaW.PrintMore Go.Proofs.YtednioabjiabiaaW.Mine
attribute [local go_sem] max2_int min2_int max_two min_two max_three min_three max_four min_four   -- for this text's walks alone
set_option linter.unusedVariables false
set_option linter.unusedSimpArgs false

/-! ### spec_DrawFilter: function 15 -/
def spec_DrawFilter.f (k : Nat) (l0 : List Int) : Option ((List (S36)) × List Bool × Int × Bool × Int × Int × Int × Int) := (spec_l1New.f k l0).bind fun bE => ((spec_l8Draw.f k bE.1 bE.2.1 bE.2.2).bind fun bv => ((spec_l3Draw.f k bE.1 bv.2.2.1 bv.2.2.2).bind fun bf => (some (bv.1, bv.2.1, bf.1, bf.2.1, bf.2.2.1, bf.2.2.2.1, bf.2.2.2.2.1, bf.2.2.2.2.2.1))))
theorem spec_DrawFilter.mono : ∀ a0 k, LeO (spec_DrawFilter.f k a0) (spec_DrawFilter.f (k + 1) a0) := by
 intro a0 k
 unfold spec_DrawFilter.f
 repeat' first
   | (with_reducible exact spec_l1New.mono _ _)
   | (with_reducible exact spec_l3Draw.mono _ _ _ _)
   | (with_reducible exact spec_l8Draw.mono _ _ _ _)
   | (with_reducible exact LeO.refl _)
   | (with_reducible exact LeO.none _)
   | (with_reducible refine LeO.ite ?_ ?_)
   | (with_reducible refine LeO.bind ?_ (fun _ => ?_))
   | exact spec_l1New.mono _ _
   | exact spec_l3Draw.mono _ _ _ _
   | exact spec_l8Draw.mono _ _ _ _
   | exact LeO.none _
   | refine LeO.ite ?_ ?_
   | refine LeO.bind ?_ (fun _ => ?_)
set_option maxHeartbeats 8000000 in
set_option maxRecDepth 100000 in
theorem spec_DrawFilter.calls (k : Nat) (A0 : Option Addr) (c0 : Nat) (l0 : List Int) (r1 : List (S36)) (r2 : List Bool) (r3 : Int) (r4 : Bool) (r5 : Int) (r6 : Int) (r7 : Int) (r8 : Int) (w : World) (hr0 : Kd.C (Kd.int .u8) w A0 l0.length l0) (hc0 : l0.length ≤ c0) (h : spec_DrawFilter.f k l0 = some (r1, r2, r3, r4, r5, r6, r7, r8)) :
  Calls Try.prog 15 #[.slice A0 l0.length c0] w fun e w' => ∃ v0_ v1_ : Value, e = .returned (.tuple #[.agg #[v0_, v1_], .agg #[.int .i64 r3, .bool r4, .int .i64 r5, .int .i64 r6, .int .i64 r7, .int .i64 r8]]) ∧ Kd.Q k36 36 w' w.heap.size (fun _ => True) v0_ r1 ∧ Kd.R Kd.bool 4 w' w.heap.size (fun _ => True) v1_ r2 ∧ Below w.heap.size w w' := by
 have hu27 := Try.underlying27; have hu36 := Try.underlying36; have d6 := Aside0.mk hr0; have d7 := Aside0.mk hc0; clear hr0 hc0; have HB := Aside0.mk (Below.refl w.heap.size w); have H : ((spec_l1New.f k l0).bind fun bE => ((spec_l8Draw.f k bE.1 bE.2.1 bE.2.2).bind fun bv => ((spec_l3Draw.f k bE.1 bv.2.2.1 bv.2.2.2).bind fun bf => (some (bv.1, bv.2.1, bf.1, bf.2.1, bf.2.2.1, bf.2.2.2.1, bf.2.2.2.2.1, bf.2.2.2.2.2.1))))) = some (r1, r2, r3, r4, r5, r6, r7, r8) := h; clear h; replace H := Option.bind_eq_some_iff.mp H; obtain ⟨⟨bD, dg, dh⟩, A20, H⟩ := H; replace H : ((spec_l8Draw.f k bD dg dh).bind fun bv => ((spec_l3Draw.f k bD bv.2.2.1 bv.2.2.2).bind fun bf => (some (bv.1, bv.2.1, bf.1, bf.2.1, bf.2.2.1, bf.2.2.2.1, bf.2.2.2.2.1, bf.2.2.2.2.2.1)))) = some (r1, r2, r3, r4, r5, r6, r7, r8) := H; have A2 := Aside0.mk A20; clear A20; replace H := Option.bind_eq_some_iff.mp H; obtain ⟨⟨bl, bm, bQ, bR⟩, A30, H⟩ := H; replace H : ((spec_l3Draw.f k bD bQ bR).bind fun bf => (some (bl, bm, bf.1, bf.2.1, bf.2.2.1, bf.2.2.2.1, bf.2.2.2.2.1, bf.2.2.2.2.2.1))) = some (r1, r2, r3, r4, r5, r6, r7, r8) := H; have A3 := Aside0.mk A30; clear A30; replace H := Option.bind_eq_some_iff.mp H; obtain ⟨⟨b6, b7, b8, b9, da, db, d8, d9⟩, A40, H⟩ := H; replace H : (some (bl, bm, b6, b7, b8, b9, da, db)) = some (r1, r2, r3, r4, r5, r6, r7, r8) := H; have A4 := Aside0.mk A40; clear A40; simp only [Option.some.injEq, Prod.mk.injEq] at H; obtain ⟨rfl, rfl, rfl, rfl, rfl, rfl, rfl, rfl⟩ := H
 go_enter Try.func15, Try.ntmps15
 try go_wp2_with (first | ((with_reducible refine gate_dst (N := 2) rfl ?_); refine bxe 2 #[.slice none 0 0, .slice none 0 0] 27 ?_; intro bx hg w5 hbox hb; have bc := hbox; have eX := nge HB hg; have eY := nge HB hg; replace HB := nbs HB hb; clear hb hbox hg) | ((with_reducible refine gate_dst (N := 3) rfl ?_); refine bxe 3 #[.int .i64 0, .bool false, .int .i64 0, .int .i64 0, .int .i64 0, .int .i64 0] 36 ?_; intro bd hg w6 hbox hb; have ba := hbox; have eZ := nge HB hg; have e0 := nge HB hg; have bF := nlt bc hg; have bG := ngt bc hg; replace bc := nblk bc hb; replace HB := nbs HB hb; clear hb hbox hg) | ((with_reducible refine gate_callee (f := 30) rfl ?_); refine goesM (some 7) rfl rfl Try.func30 (by kernel_rfl) rfl #[.slice A0 l0.length c0] rfl ?_; (with_reducible refine (spec_l1New.calls k _ _ l0 bD dg dh w _ ?side1 ?side2 ?side3 A2.out).mono ?_); (case side1 => exact nbe HB); (case side2 => exact d6.out); (case side3 => exact d7.out); rintro e w7 ⟨g544, rfl, hi, hb, hb2⟩; refine ⟨_, rfl, ?_⟩; have HI544 := Aside0.mk (hi); have e1 := Aside0.mk (IsS69.ne_blk hi (blk_below (g := bx) (o := .cells #[.slice none 0 0, .slice none 0 0] 27 (0, 0)) (nb bc) hb2) (by decide)); have dC := Aside0.mk (Ne.symm (IsS69.ne_blk hi (blk_below (g := bx) (o := .cells #[.slice none 0 0, .slice none 0 0] 27 (0, 0)) (nb bc) hb2) (by decide))); have e2 := Aside0.mk (IsS69.ne_blk hi (blk_below (g := bd) (o := .cells #[.int .i64 0, .bool false, .int .i64 0, .int .i64 0, .int .i64 0, .int .i64 0] 36 (0, 0)) (nb ba) hb2) (by decide)); have dD := Aside0.mk (Ne.symm (IsS69.ne_blk hi (blk_below (g := bd) (o := .cells #[.int .i64 0, .bool false, .int .i64 0, .int .i64 0, .int .i64 0, .int .i64 0] 36 (0, 0)) (nb ba) hb2) (by decide))); replace bc := Aside0.mk (blk_below (g := bx) (o := .cells #[.slice none 0 0, .slice none 0 0] 27 (0, 0)) (nb bc) hb2); replace ba := Aside0.mk (blk_below (g := bd) (o := .cells #[.int .i64 0, .bool false, .int .i64 0, .int .i64 0, .int .i64 0, .int .i64 0] 36 (0, 0)) (nb ba) hb2); replace HB := Aside0.mk (hb); (try clear hb)) | ((with_reducible refine gate_callee (f := 31) rfl ?_); refine goesM (some 9) rfl rfl Try.func31 (by kernel_rfl) rfl #[.pointer (some ⟨g544, 0, none⟩)] rfl ?_; (with_reducible refine (spec_l8Draw.calls k g544 bD dg dh bl bm bQ bR w _ ?side1 ?side2 A3.out).mono ?_); (case side1 => exact IsS69.n); (case side2 => exact IsS69.nb); rintro e w8 ⟨e3, e4, rfl, dE, dF, hi, hb, hk⟩; refine ⟨_, rfl, ?_⟩; have bz := Aside0.mk (Kd.Q_lower (Kd.Q_newB dE (g := bd) (o := .cells #[.int .i64 0, .bool false, .int .i64 0, .int .i64 0, .int .i64 0, .int .i64 0] 36 (0, 0)) (nb ba)) (below_size (IsS69.nb))); have bA := Aside0.mk (Kd.R_lower dF (below_size (IsS69.nb))); replace bc := Aside0.mk (KeepBut.blk hk (g' := bx) (o := .cells #[.slice none 0 0, .slice none 0 0] 27 (0, 0)) (nb bc) dC.out (by simp)); replace ba := Aside0.mk (KeepBut.blk hk (g' := bd) (o := .cells #[.int .i64 0, .bool false, .int .i64 0, .int .i64 0, .int .i64 0, .int .i64 0] 36 (0, 0)) (nb ba) dD.out (by simp)); replace HB := Aside0.mk (hb); replace HI544 := Aside0.mk (hi); (try clear hb); (try clear dE); (try clear dF)) | ((with_reducible refine gate_dst (N := 5) rfl ?_); refine bxe 5 #[.slice none 0 0, .slice none 0 0] 27 ?_; intro bk hg w9 hbox hb; have bY := nQ bz hb; have bZ := nR bA hb; have b0 := nblk bc hb; have b1 := nblk ba hb; have b2 := Aside0.mk (IsS69.below (IsS69.n) hb); have b3 := Aside0.mk (below_step (IsS69.nb) hb); have b4 := hbox; have dG := Aside0.mk ((by rw [hg]; exact (below_size (IsS69.nb)) : w.heap.size ≤ bk)); have dH := Aside0.mk ((by rw [hg]; exact (below_size (IsS69.nb)) : w.heap.size ≤ bk)); have dI := nlt bc hg; have dJ := ngt bc hg; have dK := nlt ba hg; have dL := ngt ba hg; have dM := Aside0.mk ((by rw [hg]; exact Nat.ne_of_lt (IsS69.lt (show IsS69 w _ g544 bD bQ bR from IsS69.n)) : g544 ≠ bk)); have dN := Aside0.mk ((by rw [hg]; exact Nat.ne_of_gt (IsS69.lt (show IsS69 w _ g544 bD bQ bR from IsS69.n)) : bk ≠ g544)); clear bz bA bc ba HI544 HB; have bz := bY; have bA := bZ; have bc := b0; have ba := b1; have HI544 := b2; have HB := b3; have bw := b4; have e5 := dG; have e6 := dH; have de := dI; have dc := dJ; have bS := dK; have bH := dL; have ea := dM; have dO := dN; clear bY bZ b0 b1 b2 b3 b4 dG dH dI dJ dK dL dM dN; clear hb hbox hg; obtain ⟨bq, br, eb, _⟩ := Kd.Q_slice bz.out; subst eb; have ec := dc.out; have ed := de.out; have ee := bH.out; have ef := bS.out; have eg := dO.out; have eh := ea.out; obtain ⟨dP, dQ⟩ := c2e bw; obtain ⟨dR, dS⟩ := z2_ bw; obtain ⟨bs, bt, ei⟩ := Kd.R_slice bA.out; subst ei))
 have bY : Aside0 (Kd.Q k36 36 ((w9.setCell ⟨bk, 0, none⟩ (.slice bq bl.length br)).setCell ⟨bk, 1, none⟩ (.slice bs bm.length bt)) w.heap.size (fun k_ => k_ ≠ bd) (.slice bq bl.length br) bl) := ⟨by (with_reducible repeat (first | apply Kd.Q_alloc | apply Kd.Q_drewN | apply Kd.Q_drew)); exact Kd.Q_mono (eQ2_ (Kd.Q_types bz.out bw.out (by decide))) (fun _ hk => hk.1.2)⟩; have bZ : Aside0 (Kd.R Kd.bool 4 ((w9.setCell ⟨bk, 0, none⟩ (.slice bq bl.length br)).setCell ⟨bk, 1, none⟩ (.slice bs bm.length bt)) w.heap.size (fun _ => True) (.slice bs bm.length bt) bm) := ⟨by (with_reducible repeat (first | apply Kd.R_alloc | apply Kd.R_drewN | apply Kd.R_drew)); exact Kd.R_mono (eR2_ (Kd.R_types bA.out bw.out (by decide))) (fun _ hk => trivial)⟩; have b0 : Aside0 (((w9.setCell ⟨bk, 0, none⟩ (.slice bq bl.length br)).setCell ⟨bk, 1, none⟩ (.slice bs bm.length bt)).heap[bx]? = some (.cells #[.slice none 0 0, .slice none 0 0] 27 (0, 0))) := ⟨k2_ de.out (nb bc)⟩; have b1 : Aside0 (((w9.setCell ⟨bk, 0, none⟩ (.slice bq bl.length br)).setCell ⟨bk, 1, none⟩ (.slice bs bm.length bt)).heap[bd]? = some (.cells #[.int .i64 0, .bool false, .int .i64 0, .int .i64 0, .int .i64 0, .int .i64 0] 36 (0, 0))) := ⟨k2_ bS.out (nb ba)⟩; have b2 : Aside0 (((w9.setCell ⟨bk, 0, none⟩ (.slice bq bl.length br)).setCell ⟨bk, 1, none⟩ (.slice bs bm.length bt)).heap[bk]? = some (.cells #[.slice bq bl.length br, .slice bs bm.length bt] 27 (0, 0))) := ⟨q2 bw⟩; have b3 : Aside0 (IsS69 w ((w9.setCell ⟨bk, 0, none⟩ (.slice bq bl.length br)).setCell ⟨bk, 1, none⟩ (.slice bs bm.length bt)) g544 bD bQ bR) := ⟨IsS69.n⟩; have b4 : Aside0 (Below w.heap.size w ((w9.setCell ⟨bk, 0, none⟩ (.slice bq bl.length br)).setCell ⟨bk, 1, none⟩ (.slice bs bm.length bt))) := ⟨IsS69.nb⟩; (try clear bz); (try clear bA); (try clear bc); (try clear ba); (try clear bw); (try clear HI544); (try clear HB); generalize ((w9.setCell ⟨bk, 0, none⟩ (.slice bq bl.length br)).setCell ⟨bk, 1, none⟩ (.slice bs bm.length bt)) = bT at bY bZ b0 b1 b2 b3 b4 ⊢; have bz := bY; have bA := bZ; have bc := b0; have ba := b1; have bw := b2; have HI544 := b3; have HB := b4; clear bY bZ b0 b1 b2 b3 b4; replace bz := Aside0.mk (Kd.Q_drew bz.out); replace bA := Aside0.mk (Kd.R_drew bA.out); replace bc := Aside0.mk (blk_drew bc.out); replace ba := Aside0.mk (blk_drew ba.out); replace bw := Aside0.mk (blk_drew bw.out); replace HI544 := Aside0.mk (IsS69.drew HI544.out); replace HB := Aside0.mk (below_drew1 HB.out); refine start_ (n := 5) (S := fun w' => w'.cell? ⟨bk, 0, none⟩ = some (.slice bq bl.length br) ∧ w'.cell? ⟨bk, 1, none⟩ = some (.slice bs bm.length bt)) (ds := []) #[false, false, false, false, false] (by kernel_rfl) rfl rfl (c2e bw) (fun hHeld => ?_); generalize bT.drew = ej at bz bA bc ba bw HI544 HB hHeld ⊢; refine rPk 1 11 #[false, true, false, false, false] ?_; refine rTk hHeld 0 10 #[true, true, false, false, false] ?_; refine one_ (i := 2) (N := some 12) #[true, true, true, false, false] rfl rfl (by kernel_rfl) (by decide) (fun K hK => ?_); refine goesR Try.func37 (by kernel_rfl) rfl #[.pointer (some ⟨g544, 0, none⟩)] (by rfl) rfl rfl ?_; (with_reducible refine (spec_l3Draw.calls k g544 bD bQ bR b6 b7 b8 b9 da db d8 d9 w _ ?side1 ?side2 A4.out).mono ?_); (case side1 => exact IsS69.n); (case side2 => exact IsS69.nb); rintro e bI ⟨rfl, hi, hb, hk⟩; refine ⟨_, rfl, ?_⟩; replace bc := Aside0.mk (KeepBut.blk hk (g' := bx) (o := .cells #[.slice none 0 0, .slice none 0 0] 27 (0, 0)) (nb bc) dC.out (by simp)); replace ba := Aside0.mk (KeepBut.blk hk (g' := bd) (o := .cells #[.int .i64 0, .bool false, .int .i64 0, .int .i64 0, .int .i64 0, .int .i64 0] 36 (0, 0)) (nb ba) dD.out (by simp)); replace bz := Aside0.mk (Kd.Q_mono (Kd.Q_keep (IsS69.apartQ (show IsS69 w _ g544 bD bQ bR from IsS69.n) (nQo bz) (by decide)) hk (fun _ h => h.2)) (fun _ h => h.1)); replace bA := Aside0.mk (Kd.R_mono (Kd.R_keep (IsS69.apart (show IsS69 w _ g544 bD bQ bR from IsS69.n) (nRo bA) (by decide)) hk (fun _ h => h.2)) (fun _ h => h.1)); replace bw := Aside0.mk (KeepBut.blk hk (g' := bk) (o := .cells #[.slice bq bl.length br, .slice bs bm.length bt] 27 (0, 0)) (nb bw) dO.out (by simp)); replace HB := Aside0.mk (hb); replace HI544 := Aside0.mk (hi); (try clear hb); refine hK.out _ _ (c2e bw) (fun hHeld => ?_); clear hK K; refine norm_ (a' := ?_) ?_ ?_; rotate_left
 ·show Act.put _ (some 12) _ = _
  simp only [Act.put, List.setIfInBounds_toArray, List.set_cons_zero, List.set_cons_succ, i64_w, i32_w]; rfl
 refine one_ (i := 3) (N := none) #[true, true, true, true, false] rfl rfl (by kernel_rfl) (by decide) (fun K hK => ?_); have hs19 : bI.cell? ⟨bx, 0, none⟩ = some (.slice none 0 0) := (blk_cell bc.out 0).trans rfl; have hfs19 := blk_frozen bc.out 0; have hns19_1 := bG.out; have hns19_2 := dc.out; have hms19_1 := bF.out; have hms19_2 := de.out; have hs20 : bI.cell? ⟨bx, 1, none⟩ = some (.slice none 0 0) := (blk_cell bc.out 1).trans rfl; have hfs20 := blk_frozen bc.out 1; have hns20_1 := bG.out; have hns20_2 := dc.out; have hms20_1 := bF.out; have hms20_2 := de.out; refine skip_ (w1 := ?_) (by rfl) rfl ?_ ?_; rotate_left
 ·go_simp
  rfl
 refine hK.out _ _ ⟨(g2 dc.out hHeld.1), (g2 dc.out hHeld.2)⟩ (fun hHeld => ?_); clear hK K; refine one_ (i := 4) (N := none) #[true, true, true, true, true] rfl rfl (by kernel_rfl) (by decide) (fun K hK => ?_); have hs21 : bI.cell? ⟨bd, 0, none⟩ = some (.int .i64 0) := (blk_cell ba.out 0).trans rfl; have hfs21 := blk_frozen ba.out 0; have hns21_0 := bF.out; have hns21_2 := bH.out; have hms21_0 := bG.out; have hms21_2 := bS.out; have hs22 : bI.cell? ⟨bd, 1, none⟩ = some (.bool false) := (blk_cell ba.out 1).trans rfl; have hfs22 := blk_frozen ba.out 1; have hns22_0 := bF.out; have hns22_2 := bH.out; have hms22_0 := bG.out; have hms22_2 := bS.out; have hs23 : bI.cell? ⟨bd, 2, none⟩ = some (.int .i64 0) := (blk_cell ba.out 2).trans rfl; have hfs23 := blk_frozen ba.out 2; have hns23_0 := bF.out; have hns23_2 := bH.out; have hms23_0 := bG.out; have hms23_2 := bS.out; have hs24 : bI.cell? ⟨bd, 3, none⟩ = some (.int .i64 0) := (blk_cell ba.out 3).trans rfl; have hfs24 := blk_frozen ba.out 3; have hns24_0 := bF.out; have hns24_2 := bH.out; have hms24_0 := bG.out; have hms24_2 := bS.out; have hs25 : bI.cell? ⟨bd, 4, none⟩ = some (.int .i64 0) := (blk_cell ba.out 4).trans rfl; have hfs25 := blk_frozen ba.out 4; have hns25_0 := bF.out; have hns25_2 := bH.out; have hms25_0 := bG.out; have hms25_2 := bS.out; have hs26 : bI.cell? ⟨bd, 5, none⟩ = some (.int .i64 0) := (blk_cell ba.out 5).trans rfl; have hfs26 := blk_frozen ba.out 5; have hns26_0 := bF.out; have hns26_2 := bH.out; have hms26_0 := bG.out; have hms26_2 := bS.out; refine skip_ (w1 := ?_) (by rfl) rfl ?_ ?_; rotate_left
 ·go_simp
  rfl
 refine hK.out _ _ ⟨(g6 bH.out hHeld.1), (g6 bH.out hHeld.2)⟩ (fun hHeld => ?_); clear hK K; refine done_ (by kernel_rfl) ?_
 try go_wp2
 refine bodyPost_ret (results_cc rfl _ _ bx bd 27 36 #[.slice bq bl.length br, .slice bs bm.length bt] #[.int .i64 b6, .bool b7, .int .i64 b8, .int .i64 b9, .int .i64 da, .int .i64 db] (0, 0) (0, 0) _ _ rfl (k6_ bF.out (q2 bc)) Try.underlying27 rfl (by kernel_rfl) rfl (p6 ba (k2_ bG.out (nb ba))) Try.underlying36 rfl (by kernel_rfl)) rfl ?_; exact ⟨_, _, er_, by (with_reducible repeat (first | apply Kd.Q_alloc | apply Kd.Q_drewN | apply Kd.Q_drew)); exact Kd.Q_mono (Kd.Q_far (p := ⟨bd, 5, none⟩) (Kd.Q_far (p := ⟨bd, 4, none⟩) (Kd.Q_far (p := ⟨bd, 3, none⟩) (Kd.Q_far (p := ⟨bd, 2, none⟩) (Kd.Q_far (p := ⟨bd, 1, none⟩) (Kd.Q_far (p := ⟨bd, 0, none⟩) (Kd.Q_far (p := ⟨bx, 1, none⟩) (Kd.Q_far (p := ⟨bx, 0, none⟩) (Kd.Q_mono (Kd.Q_types bz.out bc.out (by decide)) (fun k_ hk => (⟨hk, hk.1⟩ : _ ∧ k_ ≠ bd))) (fun _ hk => hk.1.2) (.slice bq bl.length br)) (fun _ hk => hk.1.2) (.slice bs bm.length bt)) (fun _ hk => hk.2) (.int .i64 b6)) (fun _ hk => hk.2) (.bool b7)) (fun _ hk => hk.2) (.int .i64 b8)) (fun _ hk => hk.2) (.int .i64 b9)) (fun _ hk => hk.2) (.int .i64 da)) (fun _ hk => hk.2) (.int .i64 db)) (fun _ hk => trivial), by (with_reducible repeat (first | apply Kd.R_alloc | apply Kd.R_drewN | apply Kd.R_drew)); exact Kd.R_mono (Kd.R_far (p := ⟨bd, 5, none⟩) (Kd.R_far (p := ⟨bd, 4, none⟩) (Kd.R_far (p := ⟨bd, 3, none⟩) (Kd.R_far (p := ⟨bd, 2, none⟩) (Kd.R_far (p := ⟨bd, 1, none⟩) (Kd.R_far (p := ⟨bd, 0, none⟩) (Kd.R_far (p := ⟨bx, 1, none⟩) (Kd.R_far (p := ⟨bx, 0, none⟩) (Kd.R_types (Kd.R_types bA.out bc.out (by decide)) ba.out (by decide)) (fun _ hk => hk.1.2) (.slice bq bl.length br)) (fun _ hk => hk.1.2) (.slice bs bm.length bt)) (fun _ hk => hk.2) (.int .i64 b6)) (fun _ hk => hk.2) (.bool b7)) (fun _ hk => hk.2) (.int .i64 b8)) (fun _ hk => hk.2) (.int .i64 b9)) (fun _ hk => hk.2) (.int .i64 da)) (fun _ hk => hk.2) (.int .i64 db)) (fun _ hk => trivial), IsS69.nb⟩

/-! ### impl_KeyWord: function 18 -/
def impl_KeyWord.f (k : Nat) (a0_0 : Int) (a0_1 : Int) (a0_2 : Int) (a0_3 : Int) (a1 : Int) : Option (Int × Bool × Int × Int × Int × Int) := (impl_Plain.f a1).bind fun bu => ((impl_KeyOk.f k a0_0 a0_1 a0_2 a0_3).bind fun bU => (if bU = true then (some (bu.1, true, a0_0, a0_1, a0_2, a0_3)) else (some (bu.1, bu.2.1, bu.2.2.1, bu.2.2.2.1, bu.2.2.2.2.1, bu.2.2.2.2.2))))
theorem impl_KeyWord.mono : ∀ a0 a1 a2 a3 a4 k, LeO (impl_KeyWord.f k a0 a1 a2 a3 a4) (impl_KeyWord.f (k + 1) a0 a1 a2 a3 a4) := by
 intro a0 a1 a2 a3 a4 k
 unfold impl_KeyWord.f
 repeat' first
   | (with_reducible exact impl_KeyOk.mono _ _ _ _ _)
   | (with_reducible exact LeO.refl _)
   | (with_reducible exact LeO.none _)
   | (with_reducible refine LeO.ite ?_ ?_)
   | (with_reducible refine LeO.bind ?_ (fun _ => ?_))
   | exact impl_KeyOk.mono _ _ _ _ _
   | exact LeO.none _
   | refine LeO.ite ?_ ?_
   | refine LeO.bind ?_ (fun _ => ?_)
set_option maxHeartbeats 8000000 in
set_option maxRecDepth 100000 in
theorem impl_KeyWord.calls (k : Nat) (a0_0 : Int) (a0_1 : Int) (a0_2 : Int) (a0_3 : Int) (a1 : Int) (r1 : Int) (r2 : Bool) (r3 : Int) (r4 : Int) (r5 : Int) (r6 : Int) (w : World) (h : impl_KeyWord.f k a0_0 a0_1 a0_2 a0_3 a1 = some (r1, r2, r3, r4, r5, r6)) :
  Calls Try.prog 18 #[.agg #[.int .i64 a0_0, .int .i64 a0_1, .int .i64 a0_2, .int .i64 a0_3], .int .i64 a1] w fun e w' => e = .returned (.agg #[.int .i64 r1, .bool r2, .int .i64 r3, .int .i64 r4, .int .i64 r5, .int .i64 r6]) ∧ Below w.heap.size w w' := by
 have hu34 := Try.underlying34; have hu36 := Try.underlying36; have HB := Aside0.mk (Below.refl w.heap.size w); have H : ((impl_Plain.f a1).bind fun bu => ((impl_KeyOk.f k a0_0 a0_1 a0_2 a0_3).bind fun bU => (if bU = true then (some (bu.1, true, a0_0, a0_1, a0_2, a0_3)) else (some (bu.1, bu.2.1, bu.2.2.1, bu.2.2.2.1, bu.2.2.2.2.1, bu.2.2.2.2.2))))) = some (r1, r2, r3, r4, r5, r6) := h; clear h; replace H := Option.bind_eq_some_iff.mp H; obtain ⟨⟨bC, bJ, bK, bL, bM, bN⟩, A30, H⟩ := H; replace H : ((impl_KeyOk.f k a0_0 a0_1 a0_2 a0_3).bind fun bU => (if bU = true then (some (bC, true, a0_0, a0_1, a0_2, a0_3)) else (some (bC, bJ, bK, bL, bM, bN)))) = some (r1, r2, r3, r4, r5, r6) := H; have A3 := Aside0.mk A30; clear A30; replace H := Option.bind_eq_some_iff.mp H; obtain ⟨bU, A40, H⟩ := H; replace H : (if bU = true then (some (bC, true, a0_0, a0_1, a0_2, a0_3)) else (some (bC, bJ, bK, bL, bM, bN))) = some (r1, r2, r3, r4, r5, r6) := H; have A4 := Aside0.mk A40; clear A40
 by_cases c5 : bU = true
 ·subst c5
  have H1 : (some (bC, true, a0_0, a0_1, a0_2, a0_3)) = some (r1, r2, r3, r4, r5, r6) := by rw [if_pos rfl] at H; exact H
  clear H; have H := H1; clear H1; simp only [Option.some.injEq, Prod.mk.injEq] at H; obtain ⟨rfl, rfl, rfl, rfl, rfl, rfl⟩ := H
  go_enter Try.func18, Try.ntmps18
  try go_wp2_with (first | ((with_reducible refine gate_dst (N := 2) rfl ?_); refine bxe 2 #[.int .i64 a0_0, .int .i64 a0_1, .int .i64 a0_2, .int .i64 a0_3] 34 ?_; intro dd hg w6 hbox hb; have bb := hbox; have ek := nge HB hg; have el := nge HB hg; replace HB := nbs HB hb; clear hb hbox hg) | ((with_reducible refine gate_dst (N := 4) rfl ?_); refine bxe 4 #[.int .i64 0, .bool false, .int .i64 0, .int .i64 0, .int .i64 0, .int .i64 0] 36 ?_; intro di hg w7 hbox hb; have bg := hbox; have em := nge HB hg; have en := nge HB hg; have dj := nlt bb hg; have dk := ngt bb hg; replace bb := nblk bb hb; replace HB := nbs HB hb; clear hb hbox hg) | ((with_reducible refine gate_callee (f := 40) rfl ?_); refine goesM (some 7) rfl rfl Try.func40 (by kernel_rfl) rfl #[.int .i64 a1] rfl ?_; (with_reducible refine (impl_Plain.calls a1 bC bJ bK bL bM bN _ A3.out).mono ?_); rintro e w8 ⟨rfl, hb⟩; refine ⟨_, rfl, ?_⟩; replace bb := nblk bb hb; replace bg := nblk bg hb; replace HB := nbs HB hb; (try clear hb)) | ((with_reducible refine gate_dst (N := 5) rfl ?_); refine bxe 5 #[.int .i64 0, .bool false, .int .i64 0, .int .i64 0, .int .i64 0, .int .i64 0] 36 ?_; intro bV hg w9 hbox hb; have bj := hbox; have eo := nge HB hg; have ep := nge HB hg; have bp := nlt bb hg; have bW := ngt bb hg; have bO := nlt bg hg; have bX := ngt bg hg; replace bb := nblk bb hb; replace bg := nblk bg hb; replace HB := nbs HB hb; clear hb hbox hg; have e7 := bW.out; have e8 := bp.out; have ec := bX.out; have ed := bO.out; obtain ⟨e9, ga, gb, gc, gd, gf⟩ := c6e bj; obtain ⟨gg, gh, gi, gj, gl, gm⟩ := z6_ bj; have eg := dj.out; have eh := dk.out; obtain ⟨dP, dQ, er, es⟩ := c4e bb; obtain ⟨dR, dS, et, eu⟩ := z4_ bb) | ((with_reducible refine gate_callee (f := 41) rfl ?_); refine goesM (some 9) rfl rfl Try.func41 (by kernel_rfl) rfl #[.agg #[.int .i64 a0_0, .int .i64 a0_1, .int .i64 a0_2, .int .i64 a0_3]] rfl ?_; (with_reducible refine (impl_KeyOk.calls k a0_0 a0_1 a0_2 a0_3 true _ A4.out).mono ?_); rintro e ev ⟨rfl, hb⟩; refine ⟨_, rfl, ?_⟩; replace bb := nblk bb hb; replace bg := nblk bg hb; replace bj := Aside0.mk (blk_below (g := bV) (o := .cells #[.int .i64 bC, .bool bJ, .int .i64 bK, .int .i64 bL, .int .i64 bM, .int .i64 bN] 36 (0, 0)) (q6 bj) hb); replace HB := nbs HB hb; (try clear hb)))
  replace bb := Aside0.mk (blk_drew bb.out); replace bg := Aside0.mk (blk_drew bg.out); replace bj := Aside0.mk (blk_drew bj.out); replace HB := Aside0.mk (below_drew1 HB.out); refine start_ (n := 5) (S := fun w' => w'.cell? ⟨dd, 0, none⟩ = some (.int .i64 a0_0) ∧ w'.cell? ⟨dd, 1, none⟩ = some (.int .i64 a0_1) ∧ w'.cell? ⟨dd, 2, none⟩ = some (.int .i64 a0_2) ∧ w'.cell? ⟨dd, 3, none⟩ = some (.int .i64 a0_3)) (ds := []) #[false, false, false, false, false] (by kernel_rfl) rfl rfl (c4e bb) (fun hHeld => ?_); generalize ev.drew = bT at bb bg bj HB hHeld ⊢; refine rPk 1 11 #[false, true, false, false, false] ?_; refine rTk hHeld 0 10 #[true, true, false, false, false] ?_; refine one_ (i := 2) (N := none) #[true, true, true, false, false] rfl rfl (by kernel_rfl) (by decide) (fun K hK => ?_); have hs17 : bT.cell? ⟨bV, 1, none⟩ = some (.bool bJ) := (blk_cell bj.out 1).trans rfl; have hfs17 := blk_frozen bj.out 1; have hns17_0 := bp.out; have hns17_1 := bO.out; have hms17_0 := bW.out; have hms17_1 := bX.out; refine skip_ (w1 := ?_) (by rfl) rfl ?_ ?_; rotate_left
  ·go_simp
   rfl
  refine hK.out _ _ ⟨(g1 bp.out hHeld.1), (g1 bp.out hHeld.2.1), (g1 bp.out hHeld.2.2.1), (g1 bp.out hHeld.2.2.2)⟩ (fun hHeld => ?_); clear hK K; refine rPk 3 12 #[true, true, true, true, false] ?_; refine one_ (i := 4) (N := none) #[true, true, true, true, true] rfl rfl (by kernel_rfl) (by decide) (fun K hK => ?_); have hs18 : bT.cell? ⟨bV, 2, none⟩ = some (.int .i64 bK) := (blk_cell bj.out 2).trans rfl; have hfs18 := blk_frozen bj.out 2; have hns18_0 := bp.out; have hns18_1 := bO.out; have hms18_0 := bW.out; have hms18_1 := bX.out; have hs19 : bT.cell? ⟨bV, 3, none⟩ = some (.int .i64 bL) := (blk_cell bj.out 3).trans rfl; have hfs19 := blk_frozen bj.out 3; have hns19_0 := bp.out; have hns19_1 := bO.out; have hms19_0 := bW.out; have hms19_1 := bX.out; have hs20 : bT.cell? ⟨bV, 4, none⟩ = some (.int .i64 bM) := (blk_cell bj.out 4).trans rfl; have hfs20 := blk_frozen bj.out 4; have hns20_0 := bp.out; have hns20_1 := bO.out; have hms20_0 := bW.out; have hms20_1 := bX.out; have hs21 : bT.cell? ⟨bV, 5, none⟩ = some (.int .i64 bN) := (blk_cell bj.out 5).trans rfl; have hfs21 := blk_frozen bj.out 5; have hns21_0 := bp.out; have hns21_1 := bO.out; have hms21_0 := bW.out; have hms21_1 := bX.out; refine skip_ (w1 := ?_) (by rfl) rfl ?_ ?_; rotate_left
  ·go_simp
   rfl
  refine hK.out _ _ ⟨(g4 bp.out hHeld.1), (g4 bp.out hHeld.2.1), (g4 bp.out hHeld.2.2.1), (g4 bp.out hHeld.2.2.2)⟩ (fun hHeld => ?_); clear hK K; refine done_ (by kernel_rfl) ?_; obtain ⟨gn, gp, gq, gr, gs, gt⟩ := c6e bj; obtain ⟨gu, gv, gw, gx, gy, gz⟩ := z6_ bj; obtain ⟨gA, gB, gC, gD, gE, gF⟩ := c6e bg; obtain ⟨gG, gH, gI, gJ, gK, gL⟩ := z6_ bg
  try go_wp2
  refine bodyPost_ret (results_cell_row rfl _ _ di 36 #[.int .i64 bC, .bool true, .int .i64 a0_0, .int .i64 a0_1, .int .i64 a0_2, .int .i64 a0_3] (0, 0) _ rfl (p6 bg (k5_ bO.out (nb bg))) Try.underlying36 rfl (by kernel_rfl)) rfl ?_; exact ⟨er_, nbe HB⟩
 ·replace c5 := Bool.eq_false_iff.mpr c5
  subst c5; have H1 : (some (bC, bJ, bK, bL, bM, bN)) = some (r1, r2, r3, r4, r5, r6) := by rw [if_neg (show ¬ (false = true) by decide)] at H; exact H
  clear H; have H := H1; clear H1; simp only [Option.some.injEq, Prod.mk.injEq] at H; obtain ⟨rfl, rfl, rfl, rfl, rfl, rfl⟩ := H
  go_enter Try.func18, Try.ntmps18
  go_wp2_with (first | ((with_reducible refine gate_dst (N := 2) rfl ?_); refine bxe 2 #[.int .i64 a0_0, .int .i64 a0_1, .int .i64 a0_2, .int .i64 a0_3] 34 ?_; intro dd hg gM hbox hb; have bb := hbox; have ek := nge HB hg; have el := nge HB hg; replace HB := nbs HB hb; clear hb hbox hg) | ((with_reducible refine gate_dst (N := 4) rfl ?_); refine bxe 4 #[.int .i64 0, .bool false, .int .i64 0, .int .i64 0, .int .i64 0, .int .i64 0] 36 ?_; intro di hg ew hbox hb; have bg := hbox; have em := nge HB hg; have en := nge HB hg; have dj := nlt bb hg; have dk := ngt bb hg; replace bb := nblk bb hb; replace HB := nbs HB hb; clear hb hbox hg) | ((with_reducible refine gate_callee (f := 40) rfl ?_); refine goesM (some 7) rfl rfl Try.func40 (by kernel_rfl) rfl #[.int .i64 a1] rfl ?_; (with_reducible refine (impl_Plain.calls a1 bC bJ bK bL bM bN _ A3.out).mono ?_); rintro e gN ⟨rfl, hb⟩; refine ⟨_, rfl, ?_⟩; replace bb := nblk bb hb; replace bg := nblk bg hb; replace HB := nbs HB hb; (try clear hb)) | ((with_reducible refine gate_dst (N := 5) rfl ?_); refine bxe 5 #[.int .i64 0, .bool false, .int .i64 0, .int .i64 0, .int .i64 0, .int .i64 0] 36 ?_; intro bV hg gO hbox hb; have bj := hbox; have eo := nge HB hg; have ep := nge HB hg; have bp := nlt bb hg; have bW := ngt bb hg; have bO := nlt bg hg; have bX := ngt bg hg; replace bb := nblk bb hb; replace bg := nblk bg hb; replace HB := nbs HB hb; clear hb hbox hg; have gP := bW.out; have gQ := bp.out; have gR := bX.out; have gS := bO.out; obtain ⟨gT, gU, gV, gW, gX, gY⟩ := c6e bj; obtain ⟨gZ, g0, g3, g5, g7, g8⟩ := z6_ bj; have g9 := dj.out; have ha := dk.out; obtain ⟨hc, hd, hf, hh⟩ := c4e bb; obtain ⟨hj, hl, hm, hn⟩ := z4_ bb) | ((with_reducible refine gate_callee (f := 41) rfl ?_); refine goesM (some 9) rfl rfl Try.func41 (by kernel_rfl) rfl #[.agg #[.int .i64 a0_0, .int .i64 a0_1, .int .i64 a0_2, .int .i64 a0_3]] rfl ?_; (with_reducible refine (impl_KeyOk.calls k a0_0 a0_1 a0_2 a0_3 false _ A4.out).mono ?_); rintro e ho ⟨rfl, hb⟩; refine ⟨_, rfl, ?_⟩; replace bb := nblk bb hb; replace bg := nblk bg hb; replace bj := Aside0.mk (blk_below (g := bV) (o := .cells #[.int .i64 bC, .bool bJ, .int .i64 bK, .int .i64 bL, .int .i64 bM, .int .i64 bN] 36 (0, 0)) (q6 bj) hb); replace HB := nbs HB hb; (try clear hb); obtain ⟨hp, hq, hr, hs, ht, hu⟩ := c6e bj; obtain ⟨hv, hw, hx, hy, hz, hA⟩ := z6_ bj; obtain ⟨hB, hC, hD, hE, hF, hG⟩ := c6e bg; obtain ⟨hH, hI, hJ, hL, hM, hN⟩ := z6_ bg))
  refine bodyPost_ret (results_cell_row rfl _ _ di 36 #[.int .i64 bC, .bool bJ, .int .i64 bK, .int .i64 bL, .int .i64 bM, .int .i64 bN] (0, 0) _ rfl (q6 bg) Try.underlying36 rfl (by kernel_rfl)) rfl ?_; exact ⟨er_, nbe HB⟩

/-! ### impl_Root: function 19 -/
def impl_Root.f  : Option (Int × Int × Int × Int) := some (0, 4096, 63, 0)
set_option maxHeartbeats 8000000 in
set_option maxRecDepth 100000 in
theorem impl_Root.calls  (r1 : Int) (r2 : Int) (r3 : Int) (r4 : Int) (w : World) (h : impl_Root.f  = some (r1, r2, r3, r4)) :
  Calls Try.prog 19 #[] w fun e w' => e = .returned (.agg #[.int .i64 r1, .int .i64 r2, .int .i64 r3, .int .i64 r4]) ∧ Below w.heap.size w w' := by
 have hu34 := Try.underlying34; have HB := Aside0.mk (Below.refl w.heap.size w); have H : (some (0, 4096, 63, 0)) = some (r1, r2, r3, r4) := h; clear h; simp only [Option.some.injEq, Prod.mk.injEq] at H; obtain ⟨rfl, rfl, rfl, rfl⟩ := H
 go_enter Try.func19, Try.ntmps19
 go_wp2_with (first | ((with_reducible refine gate_dst (N := 0) rfl ?_); refine bxe 0 #[.int .i64 0, .int .i64 0, .int .i64 0, .int .i64 0] 34 ?_; intro ex hg w1 hbox hb; have dl := hbox; have hO := nge HB hg; have hQ := nge HB hg; replace HB := nbs HB hb; clear hb hbox hg; obtain ⟨hR, hS, hT, hU⟩ := c4e dl; obtain ⟨hV, hW, hX, hY⟩ := z4_ dl))
 refine bodyPost_ret (results_cell_row rfl _ _ ex 34 #[.int .i64 0, .int .i64 4096, .int .i64 63, .int .i64 0] (0, 0) _ rfl (q4 dl) Try.underlying34 rfl (by kernel_rfl)) rfl ?_; exact ⟨er_, nbe HB⟩

/-! ### impl_Try: function 42 -/
def impl_Try.j0 : Nat → Int → Int → Bool → Int → Bool → Int → Int → Int → Int → Option (Int)
 | 0, _, _, _, _, _, _, _, _, _ => none
 | k + 1, x1, x2, x7, hZ, h0, ey, ez, eA, eB => if x7 = true then (some 1) else (if eB = 0 then (if (Go.bits .andNot .i64 x2 eA) = 0 then (if x1 < ey then (some 4) else (if x1 ≥ ez then (some 4) else (some 0))) else (some 3)) else (some 2))
def impl_Try.f (k : Nat) (a0_0 : Int) (a0_1 : Bool) (a0_2 : Int) (a0_3 : Int) (a0_4 : Int) (a0_5 : Int) (a1 : Int) (a2 : Int) : Option (Int) := if a0_1 = true then ((impl_WordOk.f k a0_0 a0_1 a0_2 a0_3 a0_4 a0_5).bind fun bP => (impl_Try.j0 k a1 a2 (!bP) a0_0 a0_1 a0_2 a0_3 a0_4 a0_5)) else (impl_Try.j0 k a1 a2 true a0_0 a0_1 a0_2 a0_3 a0_4 a0_5)
theorem impl_Try.mono_l : ∀ k, (∀ y0 y1 y2 y3 y4 y5 y6 y7 y8, LeO (impl_Try.j0 k y0 y1 y2 y3 y4 y5 y6 y7 y8) (impl_Try.j0 (k + 1) y0 y1 y2 y3 y4 y5 y6 y7 y8))
 | 0 => fun _ _ _ _ _ _ _ _ _ r h => by simp [impl_Try.j0] at h
 | k + 1 => by
  have ih0 := impl_Try.mono_l k
  ·intro y0 y1 y2 y3 y4 y5 y6 y7 y8
   unfold impl_Try.j0
   repeat' first
   | (with_reducible exact ih0 _ _ _ _ _ _ _ _ _)
   | (with_reducible exact impl_WordOk.mono _ _ _ _ _ _ _)
   | (with_reducible exact LeO.refl _)
   | (with_reducible exact LeO.none _)
   | (with_reducible refine LeO.ite ?_ ?_)
   | (with_reducible refine LeO.bind ?_ (fun _ => ?_))
   | exact ih0 _ _ _ _ _ _ _ _ _
   | exact impl_WordOk.mono _ _ _ _ _ _ _
   | exact LeO.none _
   | refine LeO.ite ?_ ?_
   | refine LeO.bind ?_ (fun _ => ?_)
theorem impl_Try.mono : ∀ a0 a1 a2 a3 a4 a5 a6 a7 k, LeO (impl_Try.f k a0 a1 a2 a3 a4 a5 a6 a7) (impl_Try.f (k + 1) a0 a1 a2 a3 a4 a5 a6 a7) := by
 intro a0 a1 a2 a3 a4 a5 a6 a7 k; have ih0 := impl_Try.mono_l k
 unfold impl_Try.f
 repeat' first
   | (with_reducible exact ih0 _ _ _ _ _ _ _ _ _)
   | (with_reducible exact impl_WordOk.mono _ _ _ _ _ _ _)
   | (with_reducible exact LeO.refl _)
   | (with_reducible exact LeO.none _)
   | (with_reducible refine LeO.ite ?_ ?_)
   | (with_reducible refine LeO.bind ?_ (fun _ => ?_))
   | exact ih0 _ _ _ _ _ _ _ _ _
   | exact impl_WordOk.mono _ _ _ _ _ _ _
   | exact LeO.none _
   | refine LeO.ite ?_ ?_
   | refine LeO.bind ?_ (fun _ => ?_)
set_option maxHeartbeats 8000000 in
set_option maxRecDepth 100000 in
theorem impl_Try.calls (k : Nat) (a0_0 : Int) (a0_1 : Bool) (a0_2 : Int) (a0_3 : Int) (a0_4 : Int) (a0_5 : Int) (a1 : Int) (a2 : Int) (r : Int) (w : World) (h : impl_Try.f k a0_0 a0_1 a0_2 a0_3 a0_4 a0_5 a1 a2 = some r) :
  Calls Try.prog 42 #[.agg #[.int .i64 a0_0, .bool a0_1, .int .i64 a0_2, .int .i64 a0_3, .int .i64 a0_4, .int .i64 a0_5], .int .i64 a1, .int .i64 a2] w fun e w' => e = .returned (.int .i64 r) ∧ Below w.heap.size w w' := by
 have hu36 := Try.underlying36; have HB := Aside0.mk (Below.refl w.heap.size w); have H : (if a0_1 = true then ((impl_WordOk.f k a0_0 a0_1 a0_2 a0_3 a0_4 a0_5).bind fun bP => (impl_Try.j0 k a1 a2 (!bP) a0_0 a0_1 a0_2 a0_3 a0_4 a0_5)) else (impl_Try.j0 k a1 a2 true a0_0 a0_1 a0_2 a0_3 a0_4 a0_5)) = some r := h; clear h; have dm := Aside0.mk H; clear H
 go_enter Try.func42, Try.ntmps42
 go_upto_region 1 with (first | ((with_reducible refine gate_dst (N := 3) rfl ?_); refine bxe 3 #[.int .i64 a0_0, .bool a0_1, .int .i64 a0_2, .int .i64 a0_3, .int .i64 a0_4, .int .i64 a0_5] 36 ?_; intro eC hg w5 hbox hb; have bn := hbox; have h1 := nge HB hg; have h2 := nge HB hg; replace HB := nbs HB hb; clear hb hbox hg))
 (try simp only [Act.put, List.setIfInBounds_toArray, List.set_cons_zero, List.set_cons_succ])
 go_cut [7] (fun v7 wc => ∃ (kq : Nat) (df : Bool), v7 = .bool df ∧ Aside0 (impl_Try.j0 kq a1 a2 df a0_0 a0_1 a0_2 a0_3 a0_4 a0_5 = some r) ∧ Aside0 (kq ≤ k) ∧ Aside0 (wc.heap[eC]? = some (.cells #[.int .i64 a0_0, .bool a0_1, .int .i64 a0_2, .int .i64 a0_3, .int .i64 a0_4, .int .i64 a0_5] 36 (0, 0))) ∧ Aside0 (Below w.heap.size w wc))
 case first =>
  have H := dm.out; clear dm
  by_cases c6 : a0_1 = true
  ·subst c6
   have H1 : ((impl_WordOk.f k a0_0 true a0_2 a0_3 a0_4 a0_5).bind fun bP => (impl_Try.j0 k a1 a2 (!bP) a0_0 true a0_2 a0_3 a0_4 a0_5)) = some r := by rw [if_pos rfl] at H; exact H
   clear H; have H := H1; clear H1; replace H := Option.bind_eq_some_iff.mp H; obtain ⟨bP, A70, H⟩ := H; replace H : (impl_Try.j0 k a1 a2 (!bP) a0_0 true a0_2 a0_3 a0_4 a0_5) = some r := H; have A7 := Aside0.mk A70; clear A70; have H' := Aside0.mk H; clear H; obtain ⟨eD, eE, eF, eG, eH, eI⟩ := c6e bn; obtain ⟨eJ, eK, eL, eM, eN, eO⟩ := z6_ bn
   go_wp2_with (first | (go_at_call 35; (with_reducible refine (impl_WordOk.calls k a0_0 true a0_2 a0_3 a0_4 a0_5 bP _ A7.out).mono ?_); rintro e w9 ⟨rfl, hb⟩; replace bn := nblk bn hb; replace HB := nbs HB hb; (try clear hb)))
   go_meet
   case rel => exact ⟨_, (!bP), (by first | rfl | (simp; done) | (simp [*]; done)), H', ⟨by first | omega | exact Nat.le_refl _⟩, ⟨nb bn⟩, ⟨nbe HB⟩⟩
  ·replace c6 := Bool.eq_false_iff.mpr c6
   subst c6; have H1 : (impl_Try.j0 k a1 a2 true a0_0 false a0_2 a0_3 a0_4 a0_5) = some r := by rw [if_neg (show ¬ (false = true) by decide)] at H; exact H
   clear H; have H := H1; clear H1; have H' := Aside0.mk H; clear H; obtain ⟨dT, dU, dV, dW, dX, dY⟩ := c6e bn; obtain ⟨dZ, d0, d1, d2, d3, d4⟩ := z6_ bn; go_wp2
   go_meet
   case rel => exact ⟨_, (true), (by first | rfl | (simp; done) | (simp [*]; done)), H', ⟨by first | omega | exact Nat.le_refl _⟩, ⟨nb bn⟩, ⟨nbe HB⟩⟩
 case rest =>
  clear dm; try clear p2
  try clear c4
  try clear c6
  try clear dT
  try clear dU
  try clear dV
  try clear dW
  try clear dX
  try clear dY
  try clear eD
  try clear eE
  try clear eF
  try clear eG
  try clear eH
  try clear eI
  try clear dZ
  try clear d0
  try clear d1
  try clear d2
  try clear d3
  try clear d4
  try clear eJ
  try clear eK
  try clear eL
  try clear eM
  try clear eN
  try clear eO
  obtain ⟨kq, df, rfl, HA, h3, bn, HB⟩ := hcut
  cases kq with
  | zero => exact absurd HA.out (by simp [impl_Try.j0])
  | succ kj3 =>
   have H := HA.out; clear HA; simp only [impl_Try.j0] at H
   by_cases c11 : df = true
   ·subst c11
    have H1 : (some 1) = some r := by rw [if_pos rfl] at H; exact H
    clear H; have H := H1; clear H1; obtain rfl := Option.some.inj H; go_wp2
    go_ret
    exact ⟨er_, nbe HB⟩
   ·replace c11 := Bool.eq_false_iff.mpr c11
    subst c11; have H1 : (if a0_5 = 0 then (if (Go.bits .andNot .i64 a2 a0_4) = 0 then (if a1 < a0_2 then (some 4) else (if a1 ≥ a0_3 then (some 4) else (some 0))) else (some 3)) else (some 2)) = some r := by rw [if_neg (show ¬ (false = true) by decide)] at H; exact H
    clear H; have H := H1; clear H1
    by_cases c12 : a0_5 = 0
    ·rw [if_pos c12] at H
     have c12b0 : (a0_5 == 0) = true := beq_iff_eq.mpr c12; have c12b1 : (a0_5 != 0) = false := bne_eq_false_iff_eq.mpr c12; clear c12
     by_cases c13 : (Go.bits .andNot .i64 a2 a0_4) = 0
     ·rw [if_pos c13] at H
      have c13b0 : ((Go.bits .andNot .i64 a2 a0_4) == 0) = true := beq_iff_eq.mpr c13; have c13b1 : ((Go.bits .andNot .i64 a2 a0_4) != 0) = false := bne_eq_false_iff_eq.mpr c13; clear c13
      by_cases c14 : a1 < a0_2
      ·rw [if_pos c14] at H
       have c14b0 : decide (a1 < a0_2) = true := decide_eq_true c14; clear c14; obtain rfl := Option.some.inj H; obtain ⟨h4, h5, h6, h7, h8, h9⟩ := c6e bn; obtain ⟨ia, ib, ic, ig, ih, ii⟩ := z6_ bn; go_wp2
       go_ret
       exact ⟨er_, nbe HB⟩
      ·rw [if_neg c14] at H
       have c14b0 : decide (a1 < a0_2) = false := decide_eq_false c14; clear c14
       by_cases c16 : a1 ≥ a0_3
       ·rw [if_pos c16] at H
        have c16b0 : decide (a0_3 ≤ a1) = true := decide_eq_true c16; clear c16; obtain rfl := Option.some.inj H; obtain ⟨ij, ik, il, im, io, ip⟩ := c6e bn; obtain ⟨iq, ir, iu, iv, iw, ix⟩ := z6_ bn; go_wp2
        go_ret
        exact ⟨er_, nbe HB⟩
       ·rw [if_neg c16] at H
        have c16b0 : decide (a0_3 ≤ a1) = false := decide_eq_false c16; clear c16; obtain rfl := Option.some.inj H; obtain ⟨iy, iz, iA, iB, iC, iD⟩ := c6e bn; obtain ⟨iE, iF, iG, iH, iI, iJ⟩ := z6_ bn; go_wp2
        go_ret
        exact ⟨er_, nbe HB⟩
     ·rw [if_neg c13] at H
      have c13b0 : ((Go.bits .andNot .i64 a2 a0_4) == 0) = false := beq_eq_false_iff_ne.mpr c13; have c13b1 : ((Go.bits .andNot .i64 a2 a0_4) != 0) = true := bne_iff_ne.mpr c13; obtain rfl := Option.some.inj H; obtain ⟨iK, iL, iM, iN, iO, iP⟩ := c6e bn; obtain ⟨iQ, iR, iS, iT, iU, iV⟩ := z6_ bn; go_wp2
      go_ret
      exact ⟨er_, nbe HB⟩
    ·rw [if_neg c12] at H
     have c12b0 : (a0_5 == 0) = false := beq_eq_false_iff_ne.mpr c12; have c12b1 : (a0_5 != 0) = true := bne_iff_ne.mpr c12; obtain rfl := Option.some.inj H; obtain ⟨iW, iX, iY, iZ, i0, i1⟩ := c6e bn; obtain ⟨i2, i3, i4, i5, i6, i7⟩ := z6_ bn; go_wp2
     go_ret
     exact ⟨er_, nbe HB⟩

/-! ### impl_permits: function 60 -/
def impl_permits.f (a0_0 : Int) (a0_1 : Bool) (a0_2 : Int) (a0_3 : Int) (a0_4 : Int) (a0_5 : Int) (a1 : Int) : Option (Bool) := some ((Go.bits .and .i64 a0_4 a1) != 0)
set_option maxHeartbeats 8000000 in
set_option maxRecDepth 100000 in
theorem impl_permits.calls (a0_0 : Int) (a0_1 : Bool) (a0_2 : Int) (a0_3 : Int) (a0_4 : Int) (a0_5 : Int) (a1 : Int) (r : Bool) (w : World) (h : impl_permits.f a0_0 a0_1 a0_2 a0_3 a0_4 a0_5 a1 = some r) :
  Calls Try.prog 60 #[.agg #[.int .i64 a0_0, .bool a0_1, .int .i64 a0_2, .int .i64 a0_3, .int .i64 a0_4, .int .i64 a0_5], .int .i64 a1] w fun e w' => e = .returned (.bool r) ∧ Below w.heap.size w w' := by
 have hu36 := Try.underlying36; have HB := Aside0.mk (Below.refl w.heap.size w); have H : (some ((Go.bits .and .i64 a0_4 a1) != 0)) = some r := h; clear h; obtain rfl := Option.some.inj H
 go_enter Try.func60, Try.ntmps60
 go_wp2_with (first | ((with_reducible refine gate_dst (N := 2) rfl ?_); refine bxe 2 #[.int .i64 a0_0, .bool a0_1, .int .i64 a0_2, .int .i64 a0_3, .int .i64 a0_4, .int .i64 a0_5] 36 ?_; intro i8 hg w3 hbox hb; have d5 := hbox; have i9 := nge HB hg; have ja := nge HB hg; replace HB := nbs HB hb; clear hb hbox hg; obtain ⟨jb, jc, jd, je, jf, jg⟩ := c6e d5; obtain ⟨jh, ji, jj, jk, jl, jm⟩ := z6_ d5))
 go_ret
 exact ⟨er_, nbe HB⟩

/-! ### impl_Taken: function 43 -/
def impl_Taken.f (a0_0 : Int) (a0_1 : Bool) (a0_2 : Int) (a0_3 : Int) (a0_4 : Int) (a0_5 : Int) (a1_0 : Int) (a1_1 : Bool) (a1_2 : Int) (a1_3 : Int) (a1_4 : Int) (a1_5 : Int) : Option (Int × Bool × Int × Int × Int × Int) := (impl_permits.f a0_0 a0_1 a0_2 a0_3 a0_4 a0_5 8).bind fun b5 => (if b5 = true then (some (a1_0, a1_1, a1_2, a1_3, a1_4, a1_5)) else ((impl_Bare.f a1_0 a1_1 a1_2 a1_3 a1_4 a1_5).bind fun bh => (some (bh.1, bh.2.1, bh.2.2.1, bh.2.2.2.1, bh.2.2.2.2.1, bh.2.2.2.2.2))))
set_option maxHeartbeats 8000000 in
set_option maxRecDepth 100000 in
theorem impl_Taken.calls (a0_0 : Int) (a0_1 : Bool) (a0_2 : Int) (a0_3 : Int) (a0_4 : Int) (a0_5 : Int) (a1_0 : Int) (a1_1 : Bool) (a1_2 : Int) (a1_3 : Int) (a1_4 : Int) (a1_5 : Int) (r1 : Int) (r2 : Bool) (r3 : Int) (r4 : Int) (r5 : Int) (r6 : Int) (w : World) (h : impl_Taken.f a0_0 a0_1 a0_2 a0_3 a0_4 a0_5 a1_0 a1_1 a1_2 a1_3 a1_4 a1_5 = some (r1, r2, r3, r4, r5, r6)) :
  Calls Try.prog 43 #[.agg #[.int .i64 a0_0, .bool a0_1, .int .i64 a0_2, .int .i64 a0_3, .int .i64 a0_4, .int .i64 a0_5], .agg #[.int .i64 a1_0, .bool a1_1, .int .i64 a1_2, .int .i64 a1_3, .int .i64 a1_4, .int .i64 a1_5]] w fun e w' => e = .returned (.agg #[.int .i64 r1, .bool r2, .int .i64 r3, .int .i64 r4, .int .i64 r5, .int .i64 r6]) ∧ Below w.heap.size w w' := by
 have hu36 := Try.underlying36; have HB := Aside0.mk (Below.refl w.heap.size w); have H : ((impl_permits.f a0_0 a0_1 a0_2 a0_3 a0_4 a0_5 8).bind fun b5 => (if b5 = true then (some (a1_0, a1_1, a1_2, a1_3, a1_4, a1_5)) else ((impl_Bare.f a1_0 a1_1 a1_2 a1_3 a1_4 a1_5).bind fun bh => (some (bh.1, bh.2.1, bh.2.2.1, bh.2.2.2.1, bh.2.2.2.2.1, bh.2.2.2.2.2))))) = some (r1, r2, r3, r4, r5, r6) := h; clear h; replace H := Option.bind_eq_some_iff.mp H; obtain ⟨b5, A30, H⟩ := H; replace H : (if b5 = true then (some (a1_0, a1_1, a1_2, a1_3, a1_4, a1_5)) else ((impl_Bare.f a1_0 a1_1 a1_2 a1_3 a1_4 a1_5).bind fun bh => (some (bh.1, bh.2.1, bh.2.2.1, bh.2.2.2.1, bh.2.2.2.2.1, bh.2.2.2.2.2)))) = some (r1, r2, r3, r4, r5, r6) := H; have A3 := Aside0.mk A30; clear A30
 by_cases c4 : b5 = true
 ·subst c4
  have H1 : (some (a1_0, a1_1, a1_2, a1_3, a1_4, a1_5)) = some (r1, r2, r3, r4, r5, r6) := by rw [if_pos rfl] at H; exact H
  clear H; have H := H1; clear H1; simp only [Option.some.injEq, Prod.mk.injEq] at H; obtain ⟨rfl, rfl, rfl, rfl, rfl, rfl⟩ := H
  go_enter Try.func43, Try.ntmps43
  go_wp2_with (first | ((with_reducible refine gate_dst (N := 2) rfl ?_); refine bxe 2 #[.int .i64 a0_0, .bool a0_1, .int .i64 a0_2, .int .i64 a0_3, .int .i64 a0_4, .int .i64 a0_5] 36 ?_; intro eP hg w5 hbox hb; have bi := hbox; have eQ := nge HB hg; have eR := nge HB hg; replace HB := nbs HB hb; clear hb hbox hg) | ((with_reducible refine gate_dst (N := 3) rfl ?_); refine bxe 3 #[.int .i64 a1_0, .bool a1_1, .int .i64 a1_2, .int .i64 a1_3, .int .i64 a1_4, .int .i64 a1_5] 36 ?_; intro eS hg w6 hbox hb; have bo := hbox; have eT := nge HB hg; have eU := nge HB hg; have dn := nlt bi hg; have dp := ngt bi hg; replace bi := nblk bi hb; replace HB := nbs HB hb; clear hb hbox hg) | ((with_reducible refine gate_dst (N := 4) rfl ?_); refine bxe 4 #[.int .i64 0, .bool false, .int .i64 0, .int .i64 0, .int .i64 0, .int .i64 0] 36 ?_; intro dq hg w7 hbox hb; have bB := hbox; have eV := nge HB hg; have eW := nge HB hg; have dr := nlt bi hg; have dt := ngt bi hg; have du := nlt bo hg; have dv := ngt bo hg; replace bi := nblk bi hb; replace bo := nblk bo hb; replace HB := nbs HB hb; clear hb hbox hg; have jn := dn.out; have jo := dp.out; have jp := dr.out; have jq := dt.out; obtain ⟨dT, dU, dV, dW, dX, dY⟩ := c6e bi; obtain ⟨dZ, d0, d1, d2, d3, d4⟩ := z6_ bi) | ((with_reducible refine gate_callee (f := 60) rfl ?_); refine goesM (some 6) rfl rfl Try.func60 (by kernel_rfl) rfl #[.agg #[.int .i64 a0_0, .bool a0_1, .int .i64 a0_2, .int .i64 a0_3, .int .i64 a0_4, .int .i64 a0_5], .int .i64 8] rfl ?_; (with_reducible refine (impl_permits.calls a0_0 a0_1 a0_2 a0_3 a0_4 a0_5 8 true _ A3.out).mono ?_); rintro e jr ⟨rfl, hb⟩; refine ⟨_, rfl, ?_⟩; replace bi := nblk bi hb; replace bo := nblk bo hb; replace bB := nblk bB hb; replace HB := nbs HB hb; (try clear hb); have ee := du.out; have ef := dv.out; obtain ⟨js, jt, ju, jv, jw, jx⟩ := c6e bo; obtain ⟨jy, jz, jA, jB, jC, jD⟩ := z6_ bo; obtain ⟨dP, dQ, er, es, jE, jF⟩ := c6e bB; obtain ⟨dR, dS, et, eu, jG, jH⟩ := z6_ bB))
  refine bodyPost_ret (results_cell_row rfl _ _ dq 36 #[.int .i64 a1_0, .bool a1_1, .int .i64 a1_2, .int .i64 a1_3, .int .i64 a1_4, .int .i64 a1_5] (0, 0) _ rfl (q6 bB) Try.underlying36 rfl (by kernel_rfl)) rfl ?_; exact ⟨er_, nbe HB⟩
 ·replace c4 := Bool.eq_false_iff.mpr c4
  subst c4; have H1 : ((impl_Bare.f a1_0 a1_1 a1_2 a1_3 a1_4 a1_5).bind fun bh => (some (bh.1, bh.2.1, bh.2.2.1, bh.2.2.2.1, bh.2.2.2.2.1, bh.2.2.2.2.2))) = some (r1, r2, r3, r4, r5, r6) := by rw [if_neg (show ¬ (false = true) by decide)] at H; exact H
  clear H; have H := H1; clear H1; replace H := Option.bind_eq_some_iff.mp H; obtain ⟨⟨dw, dx, dy, dz, dA, dB⟩, A150, H⟩ := H; replace H : (some (dw, dx, dy, dz, dA, dB)) = some (r1, r2, r3, r4, r5, r6) := H; have A15 := Aside0.mk A150; clear A150; simp only [Option.some.injEq, Prod.mk.injEq] at H; obtain ⟨rfl, rfl, rfl, rfl, rfl, rfl⟩ := H
  go_enter Try.func43, Try.ntmps43
  go_wp2_with (first | ((with_reducible refine gate_dst (N := 2) rfl ?_); refine bxe 2 #[.int .i64 a0_0, .bool a0_1, .int .i64 a0_2, .int .i64 a0_3, .int .i64 a0_4, .int .i64 a0_5] 36 ?_; intro eP hg bT hbox hb; have bi := hbox; have eQ := nge HB hg; have eR := nge HB hg; replace HB := nbs HB hb; clear hb hbox hg) | ((with_reducible refine gate_dst (N := 3) rfl ?_); refine bxe 3 #[.int .i64 a1_0, .bool a1_1, .int .i64 a1_2, .int .i64 a1_3, .int .i64 a1_4, .int .i64 a1_5] 36 ?_; intro eS hg ej hbox hb; have bo := hbox; have eT := nge HB hg; have eU := nge HB hg; have dn := nlt bi hg; have dp := ngt bi hg; replace bi := nblk bi hb; replace HB := nbs HB hb; clear hb hbox hg) | ((with_reducible refine gate_dst (N := 4) rfl ?_); refine bxe 4 #[.int .i64 0, .bool false, .int .i64 0, .int .i64 0, .int .i64 0, .int .i64 0] 36 ?_; intro dq hg bI hbox hb; have bB := hbox; have eV := nge HB hg; have eW := nge HB hg; have dr := nlt bi hg; have dt := ngt bi hg; have du := nlt bo hg; have dv := ngt bo hg; replace bi := nblk bi hb; replace bo := nblk bo hb; replace HB := nbs HB hb; clear hb hbox hg; have jI := dn.out; have jJ := dp.out; have jK := dr.out; have jL := dt.out; obtain ⟨jM, jN, jO, jP, jQ, jR⟩ := c6e bi; obtain ⟨jS, jT, jU, jV, jW, jX⟩ := z6_ bi) | ((with_reducible refine gate_callee (f := 60) rfl ?_); refine goesM (some 6) rfl rfl Try.func60 (by kernel_rfl) rfl #[.agg #[.int .i64 a0_0, .bool a0_1, .int .i64 a0_2, .int .i64 a0_3, .int .i64 a0_4, .int .i64 a0_5], .int .i64 8] rfl ?_; (with_reducible refine (impl_permits.calls a0_0 a0_1 a0_2 a0_3 a0_4 a0_5 8 false _ A3.out).mono ?_); rintro e jY ⟨rfl, hb⟩; refine ⟨_, rfl, ?_⟩; replace bi := nblk bi hb; replace bo := nblk bo hb; replace bB := nblk bB hb; replace HB := nbs HB hb; (try clear hb); have jZ := du.out; have j1 := dv.out; obtain ⟨j2, j3, j4, j5, j6, j7⟩ := c6e bo; obtain ⟨j8, j9, ka, kb, kc, kd⟩ := z6_ bo) | ((with_reducible refine gate_callee (f := 38) rfl ?_); refine goesM (some 9) rfl rfl Try.func38 (by kernel_rfl) rfl #[.agg #[.int .i64 a1_0, .bool a1_1, .int .i64 a1_2, .int .i64 a1_3, .int .i64 a1_4, .int .i64 a1_5]] rfl ?_; (with_reducible refine (impl_Bare.calls a1_0 a1_1 a1_2 a1_3 a1_4 a1_5 dw dx dy dz dA dB _ A15.out).mono ?_); rintro e ew ⟨rfl, hb⟩; refine ⟨_, rfl, ?_⟩; replace bi := nblk bi hb; replace bo := nblk bo hb; replace bB := nblk bB hb; replace HB := nbs HB hb; (try clear hb); obtain ⟨ke, kf, kg, kh, ki, kj⟩ := c6e bB; obtain ⟨kk, kl, km, kn, ko, kp⟩ := z6_ bB))
  refine bodyPost_ret (results_cell_row rfl _ _ dq 36 #[.int .i64 dw, .bool dx, .int .i64 dy, .int .i64 dz, .int .i64 dA, .int .i64 dB] (0, 0) _ rfl (q6 bB) Try.underlying36 rfl (by kernel_rfl)) rfl ?_; exact ⟨er_, nbe HB⟩

end Go.Proofs.Ytednioabjiabiaa.PFnFilter
