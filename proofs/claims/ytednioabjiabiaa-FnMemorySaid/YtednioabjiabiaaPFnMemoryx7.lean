-- Written by a program of this session (wip/patch.py turns a copy of the kit's print): the functions that the law reaches, and their walks.
import Derived.Test.YtednioabjiabiaaPFnMemoryx0
import Derived.Test.YtednioabjiabiaaPFnMemoryx3
import Derived.Test.YtednioabjiabiaaPFnMemoryx6
import Derived.Test.YtednioabjiabiaaCFnMemory
namespace Go.Proofs.Ytednioabjiabiaa.PFnMemory
open Go.RowKit Go.Proofs.YtednioabjiabiaaW.PrintWords Go.Proofs.YtednioabjiabiaaW.PrintLast Go.Proofs.YtednioabjiabiaaW.PrintMore Go.Proofs.YtednioabjiabiaaW.Mine
attribute [local go_sem] max2_int min2_int max_two min_two max_three min_three max_four min_four   -- for this text's walks alone
set_option linter.unusedVariables false
set_option linter.unusedSimpArgs false

/-! ### spec_l1Once: function 63 -/
def spec_l1Once.f (s0_0 : List Int) (s0_1 : Int) (s0_2 : Int) (a1 : Int) : Option (Bool × Int × Int) := (spec_l1Below.f s0_0 s0_1 s0_2 a1).bind fun bU => (some ((bU.1 == 0), bU.2.1, bU.2.2))
set_option maxHeartbeats 8000000 in
set_option maxRecDepth 100000 in
theorem spec_l1Once.calls (g : Nat) (s0_0 : List Int) (s0_1 : Int) (s0_2 : Int) (a1 : Int) (r1 : Bool) (r2 : Int) (r3 : Int) (w0 w : World) (hI : IsS69 w0 w g s0_0 s0_1 s0_2) (hB : Below w0.heap.size w0 w) (h : spec_l1Once.f s0_0 s0_1 s0_2 a1 = some (r1, r2, r3)) :
  Calls Try.prog 63 #[.pointer (some ⟨g, 0, none⟩), .int .i64 a1] w fun e w' => e = .returned (.bool r1) ∧ IsS69 w0 w' g s0_0 r2 r3 ∧ Below w0.heap.size w0 w' ∧ KeepBut w w' g none := by
 have HI0 := Aside0.mk hI; have HK := Aside0.mk (KeepBut.refl w g none); have HL := Aside0.mk hB.size; clear hI; have HW0 := Aside0.mk hB.size; have HB := Aside0.mk hB; clear hB; have H : ((spec_l1Below.f s0_0 s0_1 s0_2 a1).bind fun bU => (some ((bU.1 == 0), bU.2.1, bU.2.2))) = some (r1, r2, r3) := h; clear h; replace H := Option.bind_eq_some_iff.mp H; obtain ⟨⟨d0, d1, d2⟩, A30, H⟩ := H; replace H : (some ((d0 == 0), d1, d2)) = some (r1, r2, r3) := H; have A3 := Aside0.mk A30; clear A30; simp only [Option.some.injEq, Prod.mk.injEq] at H; obtain ⟨rfl, rfl, rfl⟩ := H
 go_enter Try.func63, Try.ntmps63
 go_wp2_with (first | ((with_reducible refine gate_callee (f := 32) rfl ?_); refine goesM (some 7) rfl rfl Try.func32 (by kernel_rfl) rfl #[.pointer (some ⟨g, 0, none⟩), .int .i64 a1] rfl ?_; (with_reducible refine (spec_l1Below.calls g s0_0 s0_1 s0_2 a1 d0 d1 d2 w0 _ ?side1 ?side2 A3.out).mono ?_); (case side1 => exact IsS69.n); (case side2 => exact IsS69.nb); rintro e w4 ⟨rfl, hi, hb, hk⟩; refine ⟨_, rfl, ?_⟩; replace HK := Aside0.mk (KeepBut.trans (nK HK) hk (.inl rfl)); replace HB := Aside0.mk (hb); replace HI0 := Aside0.mk (hi); (try clear hb)))
 go_ret
 exact ⟨er_, IsS69.n, IsS69.nb, nK HK⟩

/-! ### spec_KeyWord: function 64 -/
def spec_KeyWord.f (k : Nat) (a0_0 : Int) (a0_1 : Int) (a0_2 : Int) (a0_3 : Int) (a1 : Int) : Option (Int × Bool × Int × Int × Int × Int) := (spec_Plain.f a1).bind fun bB => ((spec_KeyOk.f k a0_0 a0_1 a0_2 a0_3).bind fun bO => (if bO = true then (some (bB.1, true, a0_0, a0_1, a0_2, a0_3)) else (some (bB.1, bB.2.1, bB.2.2.1, bB.2.2.2.1, bB.2.2.2.2.1, bB.2.2.2.2.2))))
theorem spec_KeyWord.mono : ∀ a0 a1 a2 a3 a4 k, LeO (spec_KeyWord.f k a0 a1 a2 a3 a4) (spec_KeyWord.f (k + 1) a0 a1 a2 a3 a4) := by
 intro a0 a1 a2 a3 a4 k
 unfold spec_KeyWord.f
 repeat' first
   | (with_reducible exact spec_KeyOk.mono _ _ _ _ _)
   | (with_reducible exact LeO.refl _)
   | (with_reducible exact LeO.none _)
   | (with_reducible refine LeO.ite ?_ ?_)
   | (with_reducible refine LeO.bind ?_ (fun _ => ?_))
   | exact spec_KeyOk.mono _ _ _ _ _
   | exact LeO.none _
   | refine LeO.ite ?_ ?_
   | refine LeO.bind ?_ (fun _ => ?_)
set_option maxHeartbeats 8000000 in
set_option maxRecDepth 100000 in
theorem spec_KeyWord.calls (k : Nat) (a0_0 : Int) (a0_1 : Int) (a0_2 : Int) (a0_3 : Int) (a1 : Int) (r1 : Int) (r2 : Bool) (r3 : Int) (r4 : Int) (r5 : Int) (r6 : Int) (w : World) (h : spec_KeyWord.f k a0_0 a0_1 a0_2 a0_3 a1 = some (r1, r2, r3, r4, r5, r6)) :
  Calls Try.prog 64 #[.agg #[.int .i64 a0_0, .int .i64 a0_1, .int .i64 a0_2, .int .i64 a0_3], .int .i64 a1] w fun e w' => e = .returned (.agg #[.int .i64 r1, .bool r2, .int .i64 r3, .int .i64 r4, .int .i64 r5, .int .i64 r6]) ∧ Below w.heap.size w w' := by
 have hu34 := Try.underlying34; have hu36 := Try.underlying36; have HB := Aside0.mk (Below.refl w.heap.size w); have H : ((spec_Plain.f a1).bind fun bB => ((spec_KeyOk.f k a0_0 a0_1 a0_2 a0_3).bind fun bO => (if bO = true then (some (bB.1, true, a0_0, a0_1, a0_2, a0_3)) else (some (bB.1, bB.2.1, bB.2.2.1, bB.2.2.2.1, bB.2.2.2.2.1, bB.2.2.2.2.2))))) = some (r1, r2, r3, r4, r5, r6) := h; clear h; replace H := Option.bind_eq_some_iff.mp H; obtain ⟨⟨bG, bP, bQ, bR, bS, bT⟩, A30, H⟩ := H; replace H : ((spec_KeyOk.f k a0_0 a0_1 a0_2 a0_3).bind fun bO => (if bO = true then (some (bG, true, a0_0, a0_1, a0_2, a0_3)) else (some (bG, bP, bQ, bR, bS, bT)))) = some (r1, r2, r3, r4, r5, r6) := H; have A3 := Aside0.mk A30; clear A30; replace H := Option.bind_eq_some_iff.mp H; obtain ⟨bO, A40, H⟩ := H; replace H : (if bO = true then (some (bG, true, a0_0, a0_1, a0_2, a0_3)) else (some (bG, bP, bQ, bR, bS, bT))) = some (r1, r2, r3, r4, r5, r6) := H; have A4 := Aside0.mk A40; clear A40
 by_cases c5 : bO = true
 ·subst c5
  have H1 : (some (bG, true, a0_0, a0_1, a0_2, a0_3)) = some (r1, r2, r3, r4, r5, r6) := by rw [if_pos rfl] at H; exact H
  clear H; have H := H1; clear H1; simp only [Option.some.injEq, Prod.mk.injEq] at H; obtain ⟨rfl, rfl, rfl, rfl, rfl, rfl⟩ := H
  go_enter Try.func64, Try.ntmps64
  go_wp2_with (first | ((with_reducible refine gate_dst (N := 2) rfl ?_); refine bxe 2 #[.int .i64 a0_0, .int .i64 a0_1, .int .i64 a0_2, .int .i64 a0_3] 34 ?_; intro eu hg w6 hbox hb; have bg := hbox; have ev := nge HB hg; have ew := nge HB hg; replace HB := nbs HB hb; clear hb hbox hg) | ((with_reducible refine gate_dst (N := 4) rfl ?_); refine bxe 4 #[.int .i64 0, .bool false, .int .i64 0, .int .i64 0, .int .i64 0, .int .i64 0] 36 ?_; intro dl hg w7 hbox hb; have bi := hbox; have ex := nge HB hg; have ey := nge HB hg; have dm := nlt bg hg; have dn := ngt bg hg; replace bg := nblk bg hb; replace HB := nbs HB hb; clear hb hbox hg) | ((with_reducible refine gate_callee (f := 58) rfl ?_); refine goesM (some 7) rfl rfl Try.func58 (by kernel_rfl) rfl #[.int .i64 a1] rfl ?_; (with_reducible refine (spec_Plain.calls a1 bG bP bQ bR bS bT _ A3.out).mono ?_); rintro e w8 ⟨rfl, hb⟩; refine ⟨_, rfl, ?_⟩; replace bg := nblk bg hb; replace bi := nblk bi hb; replace HB := nbs HB hb; (try clear hb)) | ((with_reducible refine gate_dst (N := 5) rfl ?_); refine bxe 5 #[.int .i64 0, .bool false, .int .i64 0, .int .i64 0, .int .i64 0, .int .i64 0] 36 ?_; intro dp hg w9 hbox hb; have bD := hbox; have ez := nge HB hg; have eA := nge HB hg; have dq := nlt bg hg; have dr := ngt bg hg; have dc := nlt bi hg; have dt := ngt bi hg; replace bg := nblk bg hb; replace bi := nblk bi hb; replace HB := nbs HB hb; clear hb hbox hg; have eN := dr.out; have eO := dq.out; have eP := dt.out; have eQ := dc.out; obtain ⟨eR, eS, eT, eU, eV, eW⟩ := c6e bD; obtain ⟨eX, eY, eZ, e0, e1, e2⟩ := z6_ bD; have e3 := dm.out; have e4 := dn.out; obtain ⟨e5, e6, e7, e8⟩ := c4e bg; obtain ⟨e9, ga, gb, gc⟩ := z4_ bg) | ((with_reducible refine gate_callee (f := 55) rfl ?_); refine goesM (some 9) rfl rfl Try.func55 (by kernel_rfl) rfl #[.agg #[.int .i64 a0_0, .int .i64 a0_1, .int .i64 a0_2, .int .i64 a0_3]] rfl ?_; (with_reducible refine (spec_KeyOk.calls k a0_0 a0_1 a0_2 a0_3 true _ A4.out).mono ?_); rintro e bV ⟨rfl, hb⟩; refine ⟨_, rfl, ?_⟩; replace bg := nblk bg hb; replace bi := nblk bi hb; replace bD := Aside0.mk (blk_below (g := dp) (o := .cells #[.int .i64 bG, .bool bP, .int .i64 bQ, .int .i64 bR, .int .i64 bS, .int .i64 bT] 36 (0, 0)) (q6 bD) hb); replace HB := nbs HB hb; (try clear hb); obtain ⟨gd, gf, gg, gh, gi, gj⟩ := c6e bD; obtain ⟨gl, gm, gn, gp, gq, gr⟩ := z6_ bD; obtain ⟨gs, gt, gu, gv⟩ := c4e bg; obtain ⟨gw, gx, gy, gz⟩ := z4_ bg; obtain ⟨du, dv, dw, dx, gA, gB⟩ := c6e bi; obtain ⟨dy, dz, dA, dB, gC, gD⟩ := z6_ bi))
  refine bodyPost_ret (results_cell_row rfl _ _ dl 36 #[.int .i64 bG, .bool true, .int .i64 a0_0, .int .i64 a0_1, .int .i64 a0_2, .int .i64 a0_3] (0, 0) _ rfl (p6 bi (k5_ dc.out (nb bi))) Try.underlying36 rfl (by kernel_rfl)) rfl ?_; exact ⟨er_, nbe HB⟩
 ·replace c5 := Bool.eq_false_iff.mpr c5
  subst c5; have H1 : (some (bG, bP, bQ, bR, bS, bT)) = some (r1, r2, r3, r4, r5, r6) := by rw [if_neg (show ¬ (false = true) by decide)] at H; exact H
  clear H; have H := H1; clear H1; simp only [Option.some.injEq, Prod.mk.injEq] at H; obtain ⟨rfl, rfl, rfl, rfl, rfl, rfl⟩ := H
  go_enter Try.func64, Try.ntmps64
  go_wp2_with (first | ((with_reducible refine gate_dst (N := 2) rfl ?_); refine bxe 2 #[.int .i64 a0_0, .int .i64 a0_1, .int .i64 a0_2, .int .i64 a0_3] 34 ?_; intro eu hg d3 hbox hb; have bg := hbox; have ev := nge HB hg; have ew := nge HB hg; replace HB := nbs HB hb; clear hb hbox hg) | ((with_reducible refine gate_dst (N := 4) rfl ?_); refine bxe 4 #[.int .i64 0, .bool false, .int .i64 0, .int .i64 0, .int .i64 0, .int .i64 0] 36 ?_; intro dl hg eB hbox hb; have bi := hbox; have ex := nge HB hg; have ey := nge HB hg; have dm := nlt bg hg; have dn := ngt bg hg; replace bg := nblk bg hb; replace HB := nbs HB hb; clear hb hbox hg) | ((with_reducible refine gate_callee (f := 58) rfl ?_); refine goesM (some 7) rfl rfl Try.func58 (by kernel_rfl) rfl #[.int .i64 a1] rfl ?_; (with_reducible refine (spec_Plain.calls a1 bG bP bQ bR bS bT _ A3.out).mono ?_); rintro e d4 ⟨rfl, hb⟩; refine ⟨_, rfl, ?_⟩; replace bg := nblk bg hb; replace bi := nblk bi hb; replace HB := nbs HB hb; (try clear hb)) | ((with_reducible refine gate_dst (N := 5) rfl ?_); refine bxe 5 #[.int .i64 0, .bool false, .int .i64 0, .int .i64 0, .int .i64 0, .int .i64 0] 36 ?_; intro dp hg gE hbox hb; have bD := hbox; have ez := nge HB hg; have eA := nge HB hg; have dq := nlt bg hg; have dr := ngt bg hg; have dc := nlt bi hg; have dt := ngt bi hg; replace bg := nblk bg hb; replace bi := nblk bi hb; replace HB := nbs HB hb; clear hb hbox hg; have gF := dr.out; have gG := dq.out; have gH := dt.out; have gI := dc.out; obtain ⟨gJ, gK, gL, gM, gN, gO⟩ := c6e bD; obtain ⟨gP, gQ, gR, gS, gT, gU⟩ := z6_ bD; have gV := dm.out; have gW := dn.out; obtain ⟨gX, gY, gZ, g0⟩ := c4e bg; obtain ⟨g1, g2, g3, g4⟩ := z4_ bg) | ((with_reducible refine gate_callee (f := 55) rfl ?_); refine goesM (some 9) rfl rfl Try.func55 (by kernel_rfl) rfl #[.agg #[.int .i64 a0_0, .int .i64 a0_1, .int .i64 a0_2, .int .i64 a0_3]] rfl ?_; (with_reducible refine (spec_KeyOk.calls k a0_0 a0_1 a0_2 a0_3 false _ A4.out).mono ?_); rintro e g5 ⟨rfl, hb⟩; refine ⟨_, rfl, ?_⟩; replace bg := nblk bg hb; replace bi := nblk bi hb; replace bD := Aside0.mk (blk_below (g := dp) (o := .cells #[.int .i64 bG, .bool bP, .int .i64 bQ, .int .i64 bR, .int .i64 bS, .int .i64 bT] 36 (0, 0)) (q6 bD) hb); replace HB := nbs HB hb; (try clear hb); obtain ⟨dC, dD, dE, dF, g6, g7⟩ := c6e bD; obtain ⟨dG, dH, dI, dJ, g8, g9⟩ := z6_ bD; obtain ⟨ha, hc, hd, hf, hh, hj⟩ := c6e bi; obtain ⟨hl, hm, hn, ho, hp, hq⟩ := z6_ bi))
  refine bodyPost_ret (results_cell_row rfl _ _ dl 36 #[.int .i64 bG, .bool bP, .int .i64 bQ, .int .i64 bR, .int .i64 bS, .int .i64 bT] (0, 0) _ rfl (q6 bi) Try.underlying36 rfl (by kernel_rfl)) rfl ?_; exact ⟨er_, nbe HB⟩

/-! ### spec_Root: function 72 -/
def spec_Root.f  : Option (Int × Int × Int × Int) := some (0, 4096, 63, 0)
set_option maxHeartbeats 8000000 in
set_option maxRecDepth 100000 in
theorem spec_Root.calls  (r1 : Int) (r2 : Int) (r3 : Int) (r4 : Int) (w : World) (h : spec_Root.f  = some (r1, r2, r3, r4)) :
  Calls Try.prog 72 #[] w fun e w' => e = .returned (.agg #[.int .i64 r1, .int .i64 r2, .int .i64 r3, .int .i64 r4]) ∧ Below w.heap.size w w' := by
 have hu34 := Try.underlying34; have HB := Aside0.mk (Below.refl w.heap.size w); have H : (some (0, 4096, 63, 0)) = some (r1, r2, r3, r4) := h; clear h; simp only [Option.some.injEq, Prod.mk.injEq] at H; obtain ⟨rfl, rfl, rfl, rfl⟩ := H
 go_enter Try.func72, Try.ntmps72
 go_wp2_with (first | ((with_reducible refine gate_dst (N := 0) rfl ?_); refine bxe 0 #[.int .i64 0, .int .i64 0, .int .i64 0, .int .i64 0] 34 ?_; intro eC hg w1 hbox hb; have dK := hbox; have hr := nge HB hg; have hs := nge HB hg; replace HB := nbs HB hb; clear hb hbox hg; obtain ⟨ht, hu, hv, hw⟩ := c4e dK; obtain ⟨hx, hy, hz, hA⟩ := z4_ dK))
 refine bodyPost_ret (results_cell_row rfl _ _ eC 34 #[.int .i64 0, .int .i64 4096, .int .i64 63, .int .i64 0] (0, 0) _ rfl (q4 dK) Try.underlying34 rfl (by kernel_rfl)) rfl ?_; exact ⟨er_, nbe HB⟩

/-! ### spec_l2DrawRight: function 67 -/
mutual
def spec_l2DrawRight.j0 : Nat → List Int → Int → Int → Int → Int → Int → Int → Option (Int × Int × Int × Int × Int × Int)
 | 0, _, _, _, _, _, _, _ => none
 | k + 1, bW, dL, dM, b3, b4, dd, de => (spec_l1Once.f bW dL dM 2).bind fun b5 => (if b5.1 = true then ((spec_l1Below.f bW b5.2.1 b5.2.2 64).bind fun bI => (spec_l2DrawRight.j1 k bW bI.2.1 bI.2.2 b3 b4 bI.1 de)) else (spec_l2DrawRight.j1 k bW b5.2.1 b5.2.2 b3 b4 dd de))
def spec_l2DrawRight.j1 : Nat → List Int → Int → Int → Int → Int → Int → Int → Option (Int × Int × Int × Int × Int × Int)
 | 0, _, _, _, _, _, _, _ => none
 | k + 1, bW, dL, dM, b3, b4, dd, de => (spec_l1Once.f bW dL dM 5).bind fun b6 => (if b6.1 = true then ((spec_l1Below.f bW b6.2.1 b6.2.2 7).bind fun bJ => (some (b3, b4, dd, wrap64 (1 + bJ.1), bJ.2.1, bJ.2.2))) else (some (b3, b4, dd, de, b6.2.1, b6.2.2)))
end
def spec_l2DrawRight.f (k : Nat) (s0_0 : List Int) (s0_1 : Int) (s0_2 : Int) : Option (Int × Int × Int × Int × Int × Int) := (spec_Root.f).bind fun bj => ((spec_l1Below.f s0_0 s0_1 s0_2 4).bind fun bf => (if bf.1 = 0 then ((spec_l1Below.f s0_0 bf.2.1 bf.2.2 30).bind fun bn => ((spec_l1Below.f s0_0 bn.2.1 bn.2.2 33).bind fun bo => (spec_l2DrawRight.j0 k s0_0 bo.2.1 bo.2.2 bn.1 (wrap64 (bn.1 + bo.1)) bj.2.2.1 bj.2.2.2))) else (if bf.1 = 1 then ((spec_l1Below.f s0_0 bf.2.1 bf.2.2 20).bind fun bp => ((spec_l1Below.f s0_0 bp.2.1 bp.2.2 9).bind fun bq => (spec_l2DrawRight.j0 k s0_0 bq.2.1 bq.2.2 (wrap64 (64 * bp.1)) (wrap64 ((wrap64 (64 * bp.1)) + (wrap64 (64 * bq.1)))) bj.2.2.1 bj.2.2.2))) else (if bf.1 = 2 then (spec_l2DrawRight.j0 k s0_0 bf.2.1 bf.2.2 bj.1 32 bj.2.2.1 bj.2.2.2) else (spec_l2DrawRight.j0 k s0_0 bf.2.1 bf.2.2 bj.1 bj.2.1 bj.2.2.1 bj.2.2.2)))))
theorem spec_l2DrawRight.mono_l : ∀ k, (∀ y0 y1 y2 y3 y4 y5 y6, LeO (spec_l2DrawRight.j0 k y0 y1 y2 y3 y4 y5 y6) (spec_l2DrawRight.j0 (k + 1) y0 y1 y2 y3 y4 y5 y6)) ∧ (∀ y0 y1 y2 y3 y4 y5 y6, LeO (spec_l2DrawRight.j1 k y0 y1 y2 y3 y4 y5 y6) (spec_l2DrawRight.j1 (k + 1) y0 y1 y2 y3 y4 y5 y6))
 | 0 => ⟨fun _ _ _ _ _ _ _ r h => by simp [spec_l2DrawRight.j0] at h, fun _ _ _ _ _ _ _ r h => by simp [spec_l2DrawRight.j1] at h⟩
 | k + 1 => by
  obtain ⟨ih0, ih1⟩ := spec_l2DrawRight.mono_l k; refine ⟨?_, ?_⟩
  ·intro y0 y1 y2 y3 y4 y5 y6
   unfold spec_l2DrawRight.j0
   repeat' first
   | (with_reducible exact ih0 _ _ _ _ _ _ _)
   | (with_reducible exact ih1 _ _ _ _ _ _ _)
   | (with_reducible exact LeO.refl _)
   | (with_reducible exact LeO.none _)
   | (with_reducible refine LeO.ite ?_ ?_)
   | (with_reducible refine LeO.bind ?_ (fun _ => ?_))
   | exact ih0 _ _ _ _ _ _ _
   | exact ih1 _ _ _ _ _ _ _
   | exact LeO.none _
   | refine LeO.ite ?_ ?_
   | refine LeO.bind ?_ (fun _ => ?_)
  ·intro y0 y1 y2 y3 y4 y5 y6
   unfold spec_l2DrawRight.j1
   repeat' first
   | (with_reducible exact ih0 _ _ _ _ _ _ _)
   | (with_reducible exact ih1 _ _ _ _ _ _ _)
   | (with_reducible exact LeO.refl _)
   | (with_reducible exact LeO.none _)
   | (with_reducible refine LeO.ite ?_ ?_)
   | (with_reducible refine LeO.bind ?_ (fun _ => ?_))
   | exact ih0 _ _ _ _ _ _ _
   | exact ih1 _ _ _ _ _ _ _
   | exact LeO.none _
   | refine LeO.ite ?_ ?_
   | refine LeO.bind ?_ (fun _ => ?_)
theorem spec_l2DrawRight.mono : ∀ a0 a1 a2 k, LeO (spec_l2DrawRight.f k a0 a1 a2) (spec_l2DrawRight.f (k + 1) a0 a1 a2) := by
 intro a0 a1 a2 k; obtain ⟨ih0, ih1⟩ := spec_l2DrawRight.mono_l k
 unfold spec_l2DrawRight.f
 repeat' first
   | (with_reducible exact ih0 _ _ _ _ _ _ _)
   | (with_reducible exact ih1 _ _ _ _ _ _ _)
   | (with_reducible exact LeO.refl _)
   | (with_reducible exact LeO.none _)
   | (with_reducible refine LeO.ite ?_ ?_)
   | (with_reducible refine LeO.bind ?_ (fun _ => ?_))
   | exact ih0 _ _ _ _ _ _ _
   | exact ih1 _ _ _ _ _ _ _
   | exact LeO.none _
   | refine LeO.ite ?_ ?_
   | refine LeO.bind ?_ (fun _ => ?_)
def spec_l2DrawRight.T8 : Bool × List (List Nat × List Nat) := (true, [([], []), ([0], [0]), ([], []), ([2], [2]), ([3], [3]), ([1, 4], [1, 4]), ([0, 1, 2, 3, 4, 5], []), ([6, 5, 3, 0, 1, 2, 3, 4, 5], [5, 6])])
def spec_l2DrawRight.B8 : List Nat := [0, 1, 0, 4, 12, 31, 63, 127]
theorem spec_l2DrawRight.tab8 : rtab .any (opsOf Try.f67 8) = spec_l2DrawRight.T8 := by kernel_rfl
theorem spec_l2DrawRight.bits8 : waitsOk spec_l2DrawRight.T8.2 spec_l2DrawRight.B8 = true := by kernel_rfl
set_option maxHeartbeats 8000000 in
set_option maxRecDepth 100000 in
theorem spec_l2DrawRight.calls (k : Nat) (g : Nat) (s0_0 : List Int) (s0_1 : Int) (s0_2 : Int) (r1 : Int) (r2 : Int) (r3 : Int) (r4 : Int) (r5 : Int) (r6 : Int) (w0 w : World) (hI : IsS69 w0 w g s0_0 s0_1 s0_2) (hB : Below w0.heap.size w0 w) (h : spec_l2DrawRight.f k s0_0 s0_1 s0_2 = some (r1, r2, r3, r4, r5, r6)) :
  Calls Try.prog 67 #[.pointer (some ⟨g, 0, none⟩)] w fun e w' => e = .returned (.agg #[.int .i64 r1, .int .i64 r2, .int .i64 r3, .int .i64 r4]) ∧ IsS69 w0 w' g s0_0 r5 r6 ∧ Below w0.heap.size w0 w' ∧ KeepBut w w' g none := by
 have hu34 := Try.underlying34; have HI0 := Aside0.mk hI; have HK := Aside0.mk (KeepBut.refl w g none); have HL := Aside0.mk hB.size; clear hI; have HW0 := Aside0.mk hB.size; have HB := Aside0.mk hB; clear hB; have H : ((spec_Root.f).bind fun bj => ((spec_l1Below.f s0_0 s0_1 s0_2 4).bind fun bf => (if bf.1 = 0 then ((spec_l1Below.f s0_0 bf.2.1 bf.2.2 30).bind fun bn => ((spec_l1Below.f s0_0 bn.2.1 bn.2.2 33).bind fun bo => (spec_l2DrawRight.j0 k s0_0 bo.2.1 bo.2.2 bn.1 (wrap64 (bn.1 + bo.1)) bj.2.2.1 bj.2.2.2))) else (if bf.1 = 1 then ((spec_l1Below.f s0_0 bf.2.1 bf.2.2 20).bind fun bp => ((spec_l1Below.f s0_0 bp.2.1 bp.2.2 9).bind fun bq => (spec_l2DrawRight.j0 k s0_0 bq.2.1 bq.2.2 (wrap64 (64 * bp.1)) (wrap64 ((wrap64 (64 * bp.1)) + (wrap64 (64 * bq.1)))) bj.2.2.1 bj.2.2.2))) else (if bf.1 = 2 then (spec_l2DrawRight.j0 k s0_0 bf.2.1 bf.2.2 bj.1 32 bj.2.2.1 bj.2.2.2) else (spec_l2DrawRight.j0 k s0_0 bf.2.1 bf.2.2 bj.1 bj.2.1 bj.2.2.1 bj.2.2.2)))))) = some (r1, r2, r3, r4, r5, r6) := h; clear h; replace H := Option.bind_eq_some_iff.mp H; obtain ⟨⟨bK, bC, bh, bd⟩, A20, H⟩ := H; replace H : ((spec_l1Below.f s0_0 s0_1 s0_2 4).bind fun bf => (if bf.1 = 0 then ((spec_l1Below.f s0_0 bf.2.1 bf.2.2 30).bind fun bn => ((spec_l1Below.f s0_0 bn.2.1 bn.2.2 33).bind fun bo => (spec_l2DrawRight.j0 k s0_0 bo.2.1 bo.2.2 bn.1 (wrap64 (bn.1 + bo.1)) bh bd))) else (if bf.1 = 1 then ((spec_l1Below.f s0_0 bf.2.1 bf.2.2 20).bind fun bp => ((spec_l1Below.f s0_0 bp.2.1 bp.2.2 9).bind fun bq => (spec_l2DrawRight.j0 k s0_0 bq.2.1 bq.2.2 (wrap64 (64 * bp.1)) (wrap64 ((wrap64 (64 * bp.1)) + (wrap64 (64 * bq.1)))) bh bd))) else (if bf.1 = 2 then (spec_l2DrawRight.j0 k s0_0 bf.2.1 bf.2.2 bK 32 bh bd) else (spec_l2DrawRight.j0 k s0_0 bf.2.1 bf.2.2 bK bC bh bd))))) = some (r1, r2, r3, r4, r5, r6) := H; have A2 := Aside0.mk A20; clear A20; replace H := Option.bind_eq_some_iff.mp H; obtain ⟨⟨br, bL, bM⟩, A30, H⟩ := H; replace H : (if br = 0 then ((spec_l1Below.f s0_0 bL bM 30).bind fun bn => ((spec_l1Below.f s0_0 bn.2.1 bn.2.2 33).bind fun bo => (spec_l2DrawRight.j0 k s0_0 bo.2.1 bo.2.2 bn.1 (wrap64 (bn.1 + bo.1)) bh bd))) else (if br = 1 then ((spec_l1Below.f s0_0 bL bM 20).bind fun bp => ((spec_l1Below.f s0_0 bp.2.1 bp.2.2 9).bind fun bq => (spec_l2DrawRight.j0 k s0_0 bq.2.1 bq.2.2 (wrap64 (64 * bp.1)) (wrap64 ((wrap64 (64 * bp.1)) + (wrap64 (64 * bq.1)))) bh bd))) else (if br = 2 then (spec_l2DrawRight.j0 k s0_0 bL bM bK 32 bh bd) else (spec_l2DrawRight.j0 k s0_0 bL bM bK bC bh bd)))) = some (r1, r2, r3, r4, r5, r6) := H; have A3 := Aside0.mk A30; clear A30; have dN := Aside0.mk H; clear H
 go_enter Try.func67, Try.ntmps67
 go_upto_block 0 with (first | ((with_reducible refine gate_dst (N := 2) rfl ?_); refine bxe 2 #[.int .i64 0, .int .i64 0, .int .i64 0, .int .i64 0] 34 ?_; intro bm hg w5 hbox hb; have bu := Aside0.mk (IsS69.below (IsS69.n) hb); have bv := Aside0.mk (KeepBut.trans (nK HK) (KeepBut.of_below hb g none) (.inl rfl)); have bw := Aside0.mk (below_step (IsS69.nb) hb); have bx := hbox; have bE := Aside0.mk ((by rw [hg]; exact (keep_size (w := w) (g := g) (row := none) (nK HK)) : w.heap.size ≤ bm)); have b7 := Aside0.mk ((Nat.le_trans HW0.out (by rw [hg]; exact (keep_size (w := w) (g := g) (row := none) (nK HK)) : w.heap.size ≤ bm) : w0.heap.size ≤ bm)); have b8 := Aside0.mk ((by rw [hg]; exact Nat.ne_of_lt (IsS69.lt (show IsS69 w0 _ g s0_0 s0_1 s0_2 from IsS69.n)) : g ≠ bm)); have b9 := Aside0.mk ((by rw [hg]; exact Nat.ne_of_gt (IsS69.lt (show IsS69 w0 _ g s0_0 s0_1 s0_2 from IsS69.n)) : bm ≠ g)); clear HI0 HK HB; have HI0 := bu; have HK := bv; have HB := bw; have bb := bx; have hC := bE; have hD := b7; have d5 := b8; have bH := b9; clear bu bv bw bx bE b7 b8 b9; clear hb hbox hg) | ((with_reducible refine gate_callee (f := 72) rfl ?_); refine goesM (some 4) rfl rfl Try.func72 (by kernel_rfl) rfl #[] rfl ?_; (with_reducible refine (spec_Root.calls  bK bC bh bd _ A2.out).mono ?_); rintro e w6 ⟨rfl, hb⟩; refine ⟨_, rfl, ?_⟩; have bu := Aside0.mk (IsS69.below (IsS69.n) hb); have bv := nblk bb hb; have bw := Aside0.mk (KeepBut.trans (nK HK) (KeepBut.of_below hb g none) (.inl rfl)); have bx := Aside0.mk (below_step (IsS69.nb) hb); clear HI0 bb HK HB; have HI0 := bu; have bb := bv; have HK := bw; have HB := bx; clear bu bv bw bx; (try clear hb)) | ((with_reducible refine gate_dst (N := 3) rfl ?_); refine bxe 3 #[.int .i64 0, .int .i64 0, .int .i64 0, .int .i64 0] 34 ?_; intro bc hg w7 hbox hb; have bu := Aside0.mk (IsS69.below (IsS69.n) hb); have bv := nblk bb hb; have bw := Aside0.mk (KeepBut.trans (nK HK) (KeepBut.of_below hb g none) (.inl rfl)); have bx := Aside0.mk (below_step (IsS69.nb) hb); have bE := hbox; have b7 := Aside0.mk ((by rw [hg]; exact (keep_size (w := w) (g := g) (row := none) (nK HK)) : w.heap.size ≤ bc)); have b8 := Aside0.mk ((Nat.le_trans HW0.out (by rw [hg]; exact (keep_size (w := w) (g := g) (row := none) (nK HK)) : w.heap.size ≤ bc) : w0.heap.size ≤ bc)); have b9 := nlt bb hg; have d6 := ngt bb hg; have d7 := Aside0.mk ((by rw [hg]; exact Nat.ne_of_lt (IsS69.lt (show IsS69 w0 _ g s0_0 s0_1 s0_2 from IsS69.n)) : g ≠ bc)); have d8 := Aside0.mk ((by rw [hg]; exact Nat.ne_of_gt (IsS69.lt (show IsS69 w0 _ g s0_0 s0_1 s0_2 from IsS69.n)) : bc ≠ g)); clear HI0 bb HK HB; have HI0 := bu; have bb := bv; have HK := bw; have HB := bx; have ba := bE; have hE := b7; have hF := b8; have bs := b9; have bN := d6; have bX := d7; have bt := d8; clear bu bv bw bx bE b7 b8 b9 d6 d7 d8; clear hb hbox hg; have hG := bN.out; have hH := bs.out; have hJ := bt.out; have hL := bX.out; obtain ⟨d9, ea, eb, ec⟩ := c4e ba; obtain ⟨ed, ee, ef, eg⟩ := z4_ ba) | ((with_reducible refine gate_callee (f := 32) rfl ?_); refine goesM (some 6) rfl rfl Try.func32 (by kernel_rfl) rfl #[.pointer (some ⟨g, 0, none⟩), .int .i64 4] rfl ?_; (with_reducible refine (spec_l1Below.calls g s0_0 s0_1 s0_2 4 br bL bM w0 _ ?side1 ?side2 A3.out).mono ?_); (case side1 => exact IsS69.n); (case side2 => exact IsS69.nb); rintro e hM ⟨rfl, hi, hb, hk⟩; refine ⟨_, rfl, ?_⟩; replace bb := Aside0.mk (KeepBut.blk hk (g' := bm) (o := .cells #[.int .i64 0, .int .i64 0, .int .i64 0, .int .i64 0] 34 (0, 0)) (k4_ bs.out (nb bb)) bH.out (by simp)); replace ba := Aside0.mk (KeepBut.blk hk (g' := bc) (o := .cells #[.int .i64 bK, .int .i64 bC, .int .i64 bh, .int .i64 bd] 34 (0, 0)) (q4 ba) bt.out (by simp)); replace HK := Aside0.mk (KeepBut.trans (nK HK) hk (.inl rfl)); replace HB := Aside0.mk (hb); replace HI0 := Aside0.mk (hi); (try clear hb)))
 (try simp only [Act.put, List.setIfInBounds_toArray, List.set_cons_zero, List.set_cons_succ])
 go_cut [] (fun wc => ∃ (kq : Nat) (df : Int) (dg : Int) (bk : Int) (bl : Int), Aside0 (spec_l2DrawRight.j0 kq s0_0 df dg bk bl bh bd = some (r1, r2, r3, r4, r5, r6)) ∧ Aside0 (kq ≤ k) ∧ Aside0 (wc.heap[bm]? = some (.cells #[.int .i64 0, .int .i64 0, .int .i64 0, .int .i64 0] 34 (0, 0))) ∧ Aside0 (wc.heap[bc]? = some (.cells #[.int .i64 bk, .int .i64 bl, .int .i64 bh, .int .i64 bd] 34 (0, 0))) ∧ Aside0 (IsS69 w0 wc g s0_0 df dg) ∧ Aside0 (KeepBut w wc g none) ∧ Aside0 (Below w0.heap.size w0 wc))
 case first =>
  have H := dN.out; clear dN
  by_cases c12 : br = 0
  ·rw [if_pos c12] at H
   have c12b0 : (br == 0) = true := beq_iff_eq.mpr c12; have c12b1 : (br != 0) = false := bne_eq_false_iff_eq.mpr c12; clear c12; (first | rw [c12b0] | (simp only [i64_w, i32_w]; rw [c12b0]) | skip); replace H := Option.bind_eq_some_iff.mp H; obtain ⟨⟨bz, dh, di⟩, A130, H⟩ := H; replace H : ((spec_l1Below.f s0_0 dh di 33).bind fun bo => (spec_l2DrawRight.j0 k s0_0 bo.2.1 bo.2.2 bz (wrap64 (bz + bo.1)) bh bd)) = some (r1, r2, r3, r4, r5, r6) := H; have A13 := Aside0.mk A130; clear A130; replace H := Option.bind_eq_some_iff.mp H; obtain ⟨⟨dO, dP, dQ⟩, A140, H⟩ := H; replace H : (spec_l2DrawRight.j0 k s0_0 dP dQ bz (wrap64 (bz + dO)) bh bd) = some (r1, r2, r3, r4, r5, r6) := H; have A14 := Aside0.mk A140; clear A140; have H' := Aside0.mk H; clear H
   try go_wp2_with (first | ((with_reducible refine gate_callee (f := 32) rfl ?_); refine goesM (some 10) rfl rfl Try.func32 (by kernel_rfl) rfl #[.pointer (some ⟨g, 0, none⟩), .int .i64 30] rfl ?_; (with_reducible refine (spec_l1Below.calls g s0_0 bL bM 30 bz dh di w0 _ ?side1 ?side2 A13.out).mono ?_); (case side1 => exact IsS69.n); (case side2 => exact IsS69.nb); rintro e bV ⟨rfl, hi, hb, hk⟩; refine ⟨_, rfl, ?_⟩; replace bb := Aside0.mk (KeepBut.blk hk (g' := bm) (o := .cells #[.int .i64 0, .int .i64 0, .int .i64 0, .int .i64 0] 34 (0, 0)) (nb bb) bH.out (by simp)); replace ba := Aside0.mk (KeepBut.blk hk (g' := bc) (o := .cells #[.int .i64 bK, .int .i64 bC, .int .i64 bh, .int .i64 bd] 34 (0, 0)) (nb ba) bt.out (by simp)); replace HK := Aside0.mk (KeepBut.trans (nK HK) hk (.inl rfl)); replace HB := Aside0.mk (hb); replace HI0 := Aside0.mk (hi); (try clear hb); have hN := bN.out; have hO := bs.out; have hQ := bt.out; have hR := bX.out; obtain ⟨du, dv, dw, dx⟩ := c4e ba; obtain ⟨dy, dz, dA, dB⟩ := z4_ ba))
   have bu : Aside0 ((bV.setCell ⟨bc, 0, none⟩ (.int .i64 bz)).heap[bm]? = some (.cells #[.int .i64 0, .int .i64 0, .int .i64 0, .int .i64 0] 34 (0, 0))) := ⟨k1_ bs.out (nb bb)⟩; have bv : Aside0 ((bV.setCell ⟨bc, 0, none⟩ (.int .i64 bz)).heap[bc]? = some (.cells #[.int .i64 bz, .int .i64 bC, .int .i64 bh, .int .i64 bd] 34 (0, 0))) := ⟨qp ba⟩; have bw : Aside0 (IsS69 w0 (bV.setCell ⟨bc, 0, none⟩ (.int .i64 bz)) g s0_0 dh di) := ⟨IsS69.n⟩; have bx : Aside0 (KeepBut w (bV.setCell ⟨bc, 0, none⟩ (.int .i64 bz)) g none) := ⟨nK HK⟩; have bE : Aside0 (Below w0.heap.size w0 (bV.setCell ⟨bc, 0, none⟩ (.int .i64 bz))) := ⟨IsS69.nb⟩; (try clear bb); (try clear ba); (try clear HI0); (try clear HK); (try clear HB); generalize (bV.setCell ⟨bc, 0, none⟩ (.int .i64 bz)) = d3 at bu bv bw bx bE ⊢; have bb := bu; have ba := bv; have HI0 := bw; have HK := bx; have HB := bE; clear bu bv bw bx bE; replace bb := Aside0.mk (blk_drew bb.out); replace ba := Aside0.mk (blk_drew ba.out); replace HI0 := Aside0.mk (IsS69.drew HI0.out); replace HK := Aside0.mk (keep_drew HK.out); replace HB := Aside0.mk (below_drew1 HB.out); refine start_ (n := 7) (S := fun w' => w'.cell? ⟨bc, 0, none⟩ = some (.int .i64 bz) ∧ w'.cell? ⟨bc, 1, none⟩ = some (.int .i64 bC) ∧ w'.cell? ⟨bc, 2, none⟩ = some (.int .i64 bh) ∧ w'.cell? ⟨bc, 3, none⟩ = some (.int .i64 bd)) (ds := [6]) #[false, false, false, false, false, false, false] (by kernel_rfl) rfl rfl (c4e ba) (fun hHeld => ?_); generalize d3.drew = eB at bb ba HI0 HK HB hHeld ⊢; refine rPk 0 12 #[true, false, false, false, false, false, false] ?_; refine rPk 2 14 #[true, false, true, false, false, false, false] ?_; refine rTk hHeld 1 13 #[true, true, true, false, false, false, false] ?_; refine one_ (i := 3) (N := some 15) #[true, true, true, true, false, false, false] rfl rfl (by kernel_rfl) (by decide) (fun K hK => ?_); refine goesR Try.func32 (by kernel_rfl) rfl #[.pointer (some ⟨g, 0, none⟩), .int .i64 33] (by rfl) rfl rfl ?_; (with_reducible refine (spec_l1Below.calls g s0_0 dh di 33 dO dP dQ w0 _ ?side1 ?side2 A14.out).mono ?_); (case side1 => exact IsS69.n); (case side2 => exact IsS69.nb); rintro e d4 ⟨rfl, hi, hb, hk⟩; refine ⟨_, rfl, ?_⟩; replace bb := Aside0.mk (KeepBut.blk hk (g' := bm) (o := .cells #[.int .i64 0, .int .i64 0, .int .i64 0, .int .i64 0] 34 (0, 0)) (nb bb) bH.out (by simp)); replace ba := Aside0.mk (KeepBut.blk hk (g' := bc) (o := .cells #[.int .i64 bz, .int .i64 bC, .int .i64 bh, .int .i64 bd] 34 (0, 0)) (nb ba) bt.out (by simp)); replace HK := Aside0.mk (KeepBut.trans (nK HK) hk (.inl rfl)); replace HB := Aside0.mk (hb); replace HI0 := Aside0.mk (hi); (try clear hb); refine hK.out _ _ (c4e ba) (fun hHeld => ?_); clear hK K; refine norm_ (a' := ?_) ?_ ?_; rotate_left
   ·show Act.put _ (some 15) _ = _
    simp only [Act.put, List.setIfInBounds_toArray, List.set_cons_zero, List.set_cons_succ, i64_w, i32_w]; rfl
   refine rPk 4 16 #[true, true, true, true, true, false, false] ?_; refine rPk 5 17 #[true, true, true, true, true, true, false] ?_; refine last_ (i := 6) (N := none) #[true, true, true, true, true, true, true] rfl rfl (by kernel_rfl) (by decide) (fun K hK => ?_); have hs22 : d4.cell? ⟨bc, 1, none⟩ = some (.int .i64 bC) := (blk_cell ba.out 1).trans rfl; have hfs22 := blk_frozen ba.out 1; have hns22_0 := bs.out; have hms22_0 := bN.out; refine skip_ (w1 := ?_) (by rfl) rfl ?_ ?_; rotate_left
   ·go_simp
    rfl
   refine hK.out _ _ ?_; clear hK K; refine done_ (by kernel_rfl) ?_
   try go_wp2
   go_meet
   case rel => exact ⟨_, (dP), (dQ), (bz), (wrap64 (bz + dO)), H', ⟨by first | omega | exact Nat.le_refl _⟩, ⟨k1_ bs.out (nb bb)⟩, ⟨qp ba⟩, ⟨IsS69.n⟩, ⟨nK HK⟩, ⟨IsS69.nb⟩⟩
  ·rw [if_neg c12] at H
   have c12b0 : (br == 0) = false := beq_eq_false_iff_ne.mpr c12; have c12b1 : (br != 0) = true := bne_iff_ne.mpr c12; (first | rw [c12b0] | (simp only [i64_w, i32_w]; rw [c12b0]) | skip)
   by_cases c23 : br = 1
   ·rw [if_pos c23] at H
    have c23b0 : (br == 1) = true := beq_iff_eq.mpr c23; have c23b1 : (br != 1) = false := bne_eq_false_iff_eq.mpr c23; clear c23; replace H := Option.bind_eq_some_iff.mp H; obtain ⟨⟨bA, dj, dk⟩, A240, H⟩ := H; replace H : ((spec_l1Below.f s0_0 dj dk 9).bind fun bq => (spec_l2DrawRight.j0 k s0_0 bq.2.1 bq.2.2 (wrap64 (64 * bA)) (wrap64 ((wrap64 (64 * bA)) + (wrap64 (64 * bq.1)))) bh bd)) = some (r1, r2, r3, r4, r5, r6) := H; have A24 := Aside0.mk A240; clear A240; replace H := Option.bind_eq_some_iff.mp H; obtain ⟨⟨dR, dS, dT⟩, A250, H⟩ := H; replace H : (spec_l2DrawRight.j0 k s0_0 dS dT (wrap64 (64 * bA)) (wrap64 ((wrap64 (64 * bA)) + (wrap64 (64 * dR)))) bh bd) = some (r1, r2, r3, r4, r5, r6) := H; have A25 := Aside0.mk A250; clear A250; have H' := Aside0.mk H; clear H
    try go_wp2_with (first | ((with_reducible refine gate_callee (f := 32) rfl ?_); refine goesM (some 21) rfl rfl Try.func32 (by kernel_rfl) rfl #[.pointer (some ⟨g, 0, none⟩), .int .i64 20] rfl ?_; (with_reducible refine (spec_l1Below.calls g s0_0 bL bM 20 bA dj dk w0 _ ?side1 ?side2 A24.out).mono ?_); (case side1 => exact IsS69.n); (case side2 => exact IsS69.nb); rintro e b2 ⟨rfl, hi, hb, hk⟩; refine ⟨_, rfl, ?_⟩; replace bb := Aside0.mk (KeepBut.blk hk (g' := bm) (o := .cells #[.int .i64 0, .int .i64 0, .int .i64 0, .int .i64 0] 34 (0, 0)) (nb bb) bH.out (by simp)); replace ba := Aside0.mk (KeepBut.blk hk (g' := bc) (o := .cells #[.int .i64 bK, .int .i64 bC, .int .i64 bh, .int .i64 bd] 34 (0, 0)) (nb ba) bt.out (by simp)); replace HK := Aside0.mk (KeepBut.trans (nK HK) hk (.inl rfl)); replace HB := Aside0.mk (hb); replace HI0 := Aside0.mk (hi); (try clear hb); have hS := bN.out; have hT := bs.out; have hU := bt.out; have hV := bX.out; obtain ⟨dC, dD, dE, dF⟩ := c4e ba; obtain ⟨dG, dH, dI, dJ⟩ := z4_ ba))
    have bu : Aside0 ((b2.setCell ⟨bc, 0, none⟩ (.int .i64 (wrap64 (64 * bA)))).heap[bm]? = some (.cells #[.int .i64 0, .int .i64 0, .int .i64 0, .int .i64 0] 34 (0, 0))) := ⟨k1_ bs.out (nb bb)⟩; have bv : Aside0 ((b2.setCell ⟨bc, 0, none⟩ (.int .i64 (wrap64 (64 * bA)))).heap[bc]? = some (.cells #[.int .i64 (wrap64 (64 * bA)), .int .i64 bC, .int .i64 bh, .int .i64 bd] 34 (0, 0))) := ⟨qp ba⟩; have bw : Aside0 (IsS69 w0 (b2.setCell ⟨bc, 0, none⟩ (.int .i64 (wrap64 (64 * bA)))) g s0_0 dj dk) := ⟨IsS69.n⟩; have bx : Aside0 (KeepBut w (b2.setCell ⟨bc, 0, none⟩ (.int .i64 (wrap64 (64 * bA)))) g none) := ⟨nK HK⟩; have bE : Aside0 (Below w0.heap.size w0 (b2.setCell ⟨bc, 0, none⟩ (.int .i64 (wrap64 (64 * bA))))) := ⟨IsS69.nb⟩; (try clear bb); (try clear ba); (try clear HI0); (try clear HK); (try clear HB); generalize (b2.setCell ⟨bc, 0, none⟩ (.int .i64 (wrap64 (64 * bA)))) = eD at bu bv bw bx bE ⊢; have bb := bu; have ba := bv; have HI0 := bw; have HK := bx; have HB := bE; clear bu bv bw bx bE; replace bb := Aside0.mk (blk_drew bb.out); replace ba := Aside0.mk (blk_drew ba.out); replace HI0 := Aside0.mk (IsS69.drew HI0.out); replace HK := Aside0.mk (keep_drew HK.out); replace HB := Aside0.mk (below_drew1 HB.out); refine start_ (n := 8) (S := fun w' => w'.cell? ⟨bc, 0, none⟩ = some (.int .i64 (wrap64 (64 * bA))) ∧ w'.cell? ⟨bc, 1, none⟩ = some (.int .i64 bC) ∧ w'.cell? ⟨bc, 2, none⟩ = some (.int .i64 bh) ∧ w'.cell? ⟨bc, 3, none⟩ = some (.int .i64 bd)) (ds := [7]) #[false, false, false, false, false, false, false, false] (by kernel_rfl) rfl rfl (c4e ba) (fun hHeld => ?_); refine with_tabW spec_l2DrawRight.tab8 spec_l2DrawRight.bits8 (fun HT_ HW_ => ?_); generalize eD.drew = hW at bb ba HI0 HK HB hHeld ⊢; refine rP HT_.out 0 24 #[true, false, false, false, false, false, false, false] ?_; refine rP HT_.out 2 26 #[true, false, true, false, false, false, false, false] ?_; refine rT HT_.out HW_.out hHeld 1 25 #[true, true, true, false, false, false, false, false] ?_; refine one_ (i := 3) (N := some 27) #[true, true, true, true, false, false, false, false] rfl rfl (one_of HT_.out (by kernel_rfl)) (by decide) (fun K hK => ?_); refine goesR Try.func32 (by kernel_rfl) rfl #[.pointer (some ⟨g, 0, none⟩), .int .i64 9] (by rfl) rfl rfl ?_; (with_reducible refine (spec_l1Below.calls g s0_0 dj dk 9 dR dS dT w0 _ ?side1 ?side2 A25.out).mono ?_); (case side1 => exact IsS69.n); (case side2 => exact IsS69.nb); rintro e eE ⟨rfl, hi, hb, hk⟩; refine ⟨_, rfl, ?_⟩; replace bb := Aside0.mk (KeepBut.blk hk (g' := bm) (o := .cells #[.int .i64 0, .int .i64 0, .int .i64 0, .int .i64 0] 34 (0, 0)) (nb bb) bH.out (by simp)); replace ba := Aside0.mk (KeepBut.blk hk (g' := bc) (o := .cells #[.int .i64 (wrap64 (64 * bA)), .int .i64 bC, .int .i64 bh, .int .i64 bd] 34 (0, 0)) (nb ba) bt.out (by simp)); replace HK := Aside0.mk (KeepBut.trans (nK HK) hk (.inl rfl)); replace HB := Aside0.mk (hb); replace HI0 := Aside0.mk (hi); (try clear hb); refine hK.out _ _ (c4e ba) (fun hHeld => ?_); clear hK K; refine norm_ (a' := ?_) ?_ ?_; rotate_left
    ·show Act.put _ (some 27) _ = _
     simp only [Act.put, List.setIfInBounds_toArray, List.set_cons_zero, List.set_cons_succ, i64_w, i32_w]; rfl
    refine rP HT_.out 4 28 #[true, true, true, true, true, false, false, false] ?_; refine rP HT_.out 5 29 #[true, true, true, true, true, true, false, false] ?_; refine rP HT_.out 6 30 #[true, true, true, true, true, true, true, false] ?_; refine last_ (i := 7) (N := none) #[true, true, true, true, true, true, true, true] rfl rfl (one_of HT_.out (by kernel_rfl)) (by decide) (fun K hK => ?_); have hs33 : eE.cell? ⟨bc, 1, none⟩ = some (.int .i64 bC) := (blk_cell ba.out 1).trans rfl; have hfs33 := blk_frozen ba.out 1; have hns33_0 := bs.out; have hms33_0 := bN.out; refine skip_ (w1 := ?_) (by rfl) rfl ?_ ?_; rotate_left
    ·go_simp
     rfl
    refine hK.out _ _ ?_; clear hK K; refine done_ (done_of HT_.out (by kernel_rfl)) ?_
    try go_wp2
    go_meet
    case rel => exact ⟨_, (dS), (dT), (wrap64 (64 * bA)), (wrap64 ((wrap64 (64 * bA)) + (wrap64 (64 * dR)))), H', ⟨by first | omega | exact Nat.le_refl _⟩, ⟨k1_ bs.out (nb bb)⟩, ⟨qp ba⟩, ⟨IsS69.n⟩, ⟨nK HK⟩, ⟨IsS69.nb⟩⟩
   ·rw [if_neg c23] at H
    have c23b0 : (br == 1) = false := beq_eq_false_iff_ne.mpr c23; have c23b1 : (br != 1) = true := bne_iff_ne.mpr c23
    by_cases c34 : br = 2
    ·rw [if_pos c34] at H
     have c34b0 : (br == 2) = true := beq_iff_eq.mpr c34; have c34b1 : (br != 2) = false := bne_eq_false_iff_eq.mpr c34; clear c34; have H' := Aside0.mk H; clear H; have hX := bN.out; have hY := bs.out; have hZ := bt.out; have h0 := bX.out; obtain ⟨eh, ei, ej, ek⟩ := c4e ba; obtain ⟨el, em, en, eo⟩ := z4_ ba; go_wp2
     go_meet
     case rel => exact ⟨_, (bL), (bM), (bK), (32), H', ⟨by first | omega | exact Nat.le_refl _⟩, ⟨k1_ bs.out (nb bb)⟩, ⟨qp ba⟩, ⟨IsS69.n⟩, ⟨nK HK⟩, ⟨IsS69.nb⟩⟩
    ·rw [if_neg c34] at H
     have c34b0 : (br == 2) = false := beq_eq_false_iff_ne.mpr c34; have c34b1 : (br != 2) = true := bne_iff_ne.mpr c34; have H' := Aside0.mk H; clear H; go_wp2
     go_meet
     case rel => exact ⟨_, (bL), (bM), (bK), (bC), H', ⟨by first | omega | exact Nat.le_refl _⟩, ⟨nb bb⟩, ⟨nb ba⟩, ⟨IsS69.n⟩, ⟨nK HK⟩, ⟨IsS69.nb⟩⟩
 case rest =>
  clear dN; try clear c1
  try clear c2
  try clear p2
  try clear c3
  try clear c6
  try clear p6
  try clear c7
  try clear c8
  try clear c9
  try clear c12
  try clear c12b0
  try clear c12b1
  try clear c16
  try clear c17
  try clear c23
  try clear c23b0
  try clear c23b1
  try clear c27
  try clear c28
  try clear c32
  try clear c34
  try clear c34b0
  try clear c34b1
  try clear c35
  try clear c36
  try clear d9
  try clear ea
  try clear eb
  try clear ec
  try clear du
  try clear dv
  try clear dw
  try clear dx
  try clear dC
  try clear dD
  try clear dE
  try clear dF
  try clear eh
  try clear ei
  try clear ej
  try clear ek
  try clear ed
  try clear ee
  try clear ef
  try clear eg
  try clear dy
  try clear dz
  try clear dA
  try clear dB
  try clear dG
  try clear dH
  try clear dI
  try clear dJ
  try clear el
  try clear em
  try clear en
  try clear eo
  obtain ⟨kq, df, dg, bk, bl, HA, ep, bb, ba, HI0, HK, HB⟩ := hcut
  cases kq with
  | zero => exact absurd HA.out (by simp [spec_l2DrawRight.j0])
  | succ kj3 =>
   have H := HA.out; clear HA; simp only [spec_l2DrawRight.j0] at H; replace H := Option.bind_eq_some_iff.mp H; obtain ⟨⟨dU, bY, bZ⟩, A380, H⟩ := H; replace H : (if dU = true then ((spec_l1Below.f s0_0 bY bZ 64).bind fun bI => (spec_l2DrawRight.j1 kj3 s0_0 bI.2.1 bI.2.2 bk bl bI.1 bd)) else (spec_l2DrawRight.j1 kj3 s0_0 bY bZ bk bl bh bd)) = some (r1, r2, r3, r4, r5, r6) := H; have A38 := Aside0.mk A380; clear A380; have dV := Aside0.mk H; clear H
   go_upto_if 35 with (first | ((with_reducible refine gate_callee (f := 63) rfl ?_); refine goesM (some 35) rfl rfl Try.func63 (by kernel_rfl) rfl #[.pointer (some ⟨g, 0, none⟩), .int .i64 2] rfl ?_; (with_reducible refine (spec_l1Once.calls g s0_0 df dg 2 dU bY bZ w0 _ ?side1 ?side2 A38.out).mono ?_); (case side1 => exact IsS69.n); (case side2 => exact IsS69.nb); rintro e h1 ⟨rfl, hi, hb, hk⟩; refine ⟨_, rfl, ?_⟩; replace bb := Aside0.mk (KeepBut.blk hk (g' := bm) (o := .cells #[.int .i64 0, .int .i64 0, .int .i64 0, .int .i64 0] 34 (0, 0)) (nb bb) bH.out (by simp)); replace ba := Aside0.mk (KeepBut.blk hk (g' := bc) (o := .cells #[.int .i64 bk, .int .i64 bl, .int .i64 bh, .int .i64 bd] 34 (0, 0)) (nb ba) bt.out (by simp)); replace HK := Aside0.mk (KeepBut.trans (nK HK) hk (.inl rfl)); replace HB := Aside0.mk (hb); replace HI0 := Aside0.mk (hi); (try clear hb)))
   (try simp only [Act.put, List.setIfInBounds_toArray, List.set_cons_zero, List.set_cons_succ])
   go_cut [] (fun wc => ∃ (kq : Nat) (da : Int) (db : Int) (bF : Int), Aside0 (spec_l2DrawRight.j1 kq s0_0 da db bk bl bF bd = some (r1, r2, r3, r4, r5, r6)) ∧ Aside0 (kq ≤ kj3) ∧ Aside0 (wc.heap[bm]? = some (.cells #[.int .i64 0, .int .i64 0, .int .i64 0, .int .i64 0] 34 (0, 0))) ∧ Aside0 (wc.heap[bc]? = some (.cells #[.int .i64 bk, .int .i64 bl, .int .i64 bF, .int .i64 bd] 34 (0, 0))) ∧ Aside0 (IsS69 w0 wc g s0_0 da db) ∧ Aside0 (KeepBut w wc g none) ∧ Aside0 (Below w0.heap.size w0 wc))
   case first =>
    have H := dV.out; clear dV
    by_cases c41 : dU = true
    ·subst c41
     have H1 : ((spec_l1Below.f s0_0 bY bZ 64).bind fun bI => (spec_l2DrawRight.j1 kj3 s0_0 bI.2.1 bI.2.2 bk bl bI.1 bd)) = some (r1, r2, r3, r4, r5, r6) := by rw [if_pos rfl] at H; exact H
     clear H; have H := H1; clear H1; replace H := Option.bind_eq_some_iff.mp H; obtain ⟨⟨dW, dX, dY⟩, A420, H⟩ := H; replace H : (spec_l2DrawRight.j1 kj3 s0_0 dX dY bk bl dW bd) = some (r1, r2, r3, r4, r5, r6) := H; have A42 := Aside0.mk A420; clear A420; have H' := Aside0.mk H; clear H
     go_wp2_with (first | ((with_reducible refine gate_callee (f := 32) rfl ?_); refine goesM (some 37) rfl rfl Try.func32 (by kernel_rfl) rfl #[.pointer (some ⟨g, 0, none⟩), .int .i64 64] rfl ?_; (with_reducible refine (spec_l1Below.calls g s0_0 bY bZ 64 dW dX dY w0 _ ?side1 ?side2 A42.out).mono ?_); (case side1 => exact IsS69.n); (case side2 => exact IsS69.nb); rintro e h2 ⟨rfl, hi, hb, hk⟩; refine ⟨_, rfl, ?_⟩; replace bb := Aside0.mk (KeepBut.blk hk (g' := bm) (o := .cells #[.int .i64 0, .int .i64 0, .int .i64 0, .int .i64 0] 34 (0, 0)) (nb bb) bH.out (by simp)); replace ba := Aside0.mk (KeepBut.blk hk (g' := bc) (o := .cells #[.int .i64 bk, .int .i64 bl, .int .i64 bh, .int .i64 bd] 34 (0, 0)) (nb ba) bt.out (by simp)); replace HK := Aside0.mk (KeepBut.trans (nK HK) hk (.inl rfl)); replace HB := Aside0.mk (hb); replace HI0 := Aside0.mk (hi); (try clear hb); have h3 := bN.out; have h4 := bs.out; have h5 := bt.out; have h6 := bX.out; obtain ⟨eF, eG, eH, eI⟩ := c4e ba; obtain ⟨eJ, eK, eL, eM⟩ := z4_ ba))
     go_meet
     case rel => exact ⟨_, (dX), (dY), (dW), H', ⟨by have := ep.out; first | omega | exact Nat.le_refl _⟩, ⟨k1_ bs.out (nb bb)⟩, ⟨qp ba⟩, ⟨IsS69.n⟩, ⟨nK HK⟩, ⟨IsS69.nb⟩⟩
    ·replace c41 := Bool.eq_false_iff.mpr c41
     subst c41; have H1 : (spec_l2DrawRight.j1 kj3 s0_0 bY bZ bk bl bh bd) = some (r1, r2, r3, r4, r5, r6) := by rw [if_neg (show ¬ (false = true) by decide)] at H; exact H
     clear H; have H := H1; clear H1; have H' := Aside0.mk H; clear H; go_wp2
     go_meet
     case rel => exact ⟨_, (bY), (bZ), (bh), H', ⟨by have := ep.out; first | omega | exact Nat.le_refl _⟩, ⟨nb bb⟩, ⟨nb ba⟩, ⟨IsS69.n⟩, ⟨nK HK⟩, ⟨IsS69.nb⟩⟩
   case rest =>
    clear dV; try clear c1
    try clear c2
    try clear p2
    try clear c3
    try clear c4
    try clear c6
    try clear p6
    try clear c7
    try clear c8
    try clear c9
    try clear c12
    try clear c12b0
    try clear c12b1
    try clear c16
    try clear c17
    try clear c23
    try clear c23b0
    try clear c23b1
    try clear c27
    try clear c28
    try clear c32
    try clear c34
    try clear c34b0
    try clear c34b1
    try clear c35
    try clear c36
    try clear c41
    try clear c44
    try clear c45
    try clear d9
    try clear ea
    try clear eb
    try clear ec
    try clear du
    try clear dv
    try clear dw
    try clear dx
    try clear dC
    try clear dD
    try clear dE
    try clear dF
    try clear eh
    try clear ei
    try clear ej
    try clear ek
    try clear eF
    try clear eG
    try clear eH
    try clear eI
    try clear ed
    try clear ee
    try clear ef
    try clear eg
    try clear dy
    try clear dz
    try clear dA
    try clear dB
    try clear dG
    try clear dH
    try clear dI
    try clear dJ
    try clear el
    try clear em
    try clear en
    try clear eo
    try clear eJ
    try clear eK
    try clear eL
    try clear eM
    try clear p2
    try clear p6
    obtain ⟨kq, da, db, bF, HA, h7, bb, ba, HI0, HK, HB⟩ := hcut
    cases kq with
    | zero => exact absurd HA.out (by simp [spec_l2DrawRight.j1])
    | succ kj38 =>
     have H := HA.out; clear HA; simp only [spec_l2DrawRight.j1] at H; replace H := Option.bind_eq_some_iff.mp H; obtain ⟨⟨er, b0, b1⟩, A470, H⟩ := H; replace H : (if er = true then ((spec_l1Below.f s0_0 b0 b1 7).bind fun bJ => (some (bk, bl, bF, wrap64 (1 + bJ.1), bJ.2.1, bJ.2.2))) else (some (bk, bl, bF, bd, b0, b1))) = some (r1, r2, r3, r4, r5, r6) := H; have A47 := Aside0.mk A470; clear A470
     by_cases c48 : er = true
     ·subst c48
      have H1 : ((spec_l1Below.f s0_0 b0 b1 7).bind fun bJ => (some (bk, bl, bF, wrap64 (1 + bJ.1), bJ.2.1, bJ.2.2))) = some (r1, r2, r3, r4, r5, r6) := by rw [if_pos rfl] at H; exact H
      clear H; have H := H1; clear H1; replace H := Option.bind_eq_some_iff.mp H; obtain ⟨⟨dZ, es, et⟩, A490, H⟩ := H; replace H : (some (bk, bl, bF, wrap64 (1 + dZ), es, et)) = some (r1, r2, r3, r4, r5, r6) := H; have A49 := Aside0.mk A490; clear A490; simp only [Option.some.injEq, Prod.mk.injEq] at H; obtain ⟨rfl, rfl, rfl, rfl, rfl, rfl⟩ := H
      go_wp2_with (first | ((with_reducible refine gate_callee (f := 63) rfl ?_); refine goesM (some 40) rfl rfl Try.func63 (by kernel_rfl) rfl #[.pointer (some ⟨g, 0, none⟩), .int .i64 5] rfl ?_; (with_reducible refine (spec_l1Once.calls g s0_0 da db 5 true b0 b1 w0 _ ?side1 ?side2 A47.out).mono ?_); (case side1 => exact IsS69.n); (case side2 => exact IsS69.nb); rintro e h8 ⟨rfl, hi, hb, hk⟩; refine ⟨_, rfl, ?_⟩; replace bb := Aside0.mk (KeepBut.blk hk (g' := bm) (o := .cells #[.int .i64 0, .int .i64 0, .int .i64 0, .int .i64 0] 34 (0, 0)) (nb bb) bH.out (by simp)); replace ba := Aside0.mk (KeepBut.blk hk (g' := bc) (o := .cells #[.int .i64 bk, .int .i64 bl, .int .i64 bF, .int .i64 bd] 34 (0, 0)) (nb ba) bt.out (by simp)); replace HK := Aside0.mk (KeepBut.trans (nK HK) hk (.inl rfl)); replace HB := Aside0.mk (hb); replace HI0 := Aside0.mk (hi); (try clear hb)) | ((with_reducible refine gate_callee (f := 32) rfl ?_); refine goesM (some 42) rfl rfl Try.func32 (by kernel_rfl) rfl #[.pointer (some ⟨g, 0, none⟩), .int .i64 7] rfl ?_; (with_reducible refine (spec_l1Below.calls g s0_0 b0 b1 7 dZ es et w0 _ ?side1 ?side2 A49.out).mono ?_); (case side1 => exact IsS69.n); (case side2 => exact IsS69.nb); rintro e h9 ⟨rfl, hi, hb, hk⟩; refine ⟨_, rfl, ?_⟩; replace bb := Aside0.mk (KeepBut.blk hk (g' := bm) (o := .cells #[.int .i64 0, .int .i64 0, .int .i64 0, .int .i64 0] 34 (0, 0)) (nb bb) bH.out (by simp)); replace ba := Aside0.mk (KeepBut.blk hk (g' := bc) (o := .cells #[.int .i64 bk, .int .i64 bl, .int .i64 bF, .int .i64 bd] 34 (0, 0)) (nb ba) bt.out (by simp)); replace HK := Aside0.mk (KeepBut.trans (nK HK) hk (.inl rfl)); replace HB := Aside0.mk (hb); replace HI0 := Aside0.mk (hi); (try clear hb); have ia := bN.out; have ib := bs.out; have ic := bt.out; have ig := bX.out; obtain ⟨ih, ii, ij, ik⟩ := c4e ba; obtain ⟨il, im, io, ip⟩ := z4_ ba; have iq := bH.out; have ir := d5.out; obtain ⟨iu, iv, iw, ix⟩ := c4e bb; obtain ⟨iy, iz, iA, iB⟩ := z4_ bb))
      refine bodyPost_ret (results_cell_row rfl _ _ bm 34 #[.int .i64 bk, .int .i64 bl, .int .i64 bF, .int .i64 (wrap64 (1 + dZ))] (0, 0) _ rfl (p4 bb (k1_ bs.out (nb bb))) Try.underlying34 rfl (by kernel_rfl)) rfl ?_; exact ⟨er_, IsS69.n, IsS69.nb, nK HK⟩
     ·replace c48 := Bool.eq_false_iff.mpr c48
      subst c48; have H1 : (some (bk, bl, bF, bd, b0, b1)) = some (r1, r2, r3, r4, r5, r6) := by rw [if_neg (show ¬ (false = true) by decide)] at H; exact H
      clear H; have H := H1; clear H1; simp only [Option.some.injEq, Prod.mk.injEq] at H; obtain ⟨rfl, rfl, rfl, rfl, rfl, rfl⟩ := H
      go_wp2_with (first | ((with_reducible refine gate_callee (f := 63) rfl ?_); refine goesM (some 40) rfl rfl Try.func63 (by kernel_rfl) rfl #[.pointer (some ⟨g, 0, none⟩), .int .i64 5] rfl ?_; (with_reducible refine (spec_l1Once.calls g s0_0 da db 5 false b0 b1 w0 _ ?side1 ?side2 A47.out).mono ?_); (case side1 => exact IsS69.n); (case side2 => exact IsS69.nb); rintro e iC ⟨rfl, hi, hb, hk⟩; refine ⟨_, rfl, ?_⟩; replace bb := Aside0.mk (KeepBut.blk hk (g' := bm) (o := .cells #[.int .i64 0, .int .i64 0, .int .i64 0, .int .i64 0] 34 (0, 0)) (nb bb) bH.out (by simp)); replace ba := Aside0.mk (KeepBut.blk hk (g' := bc) (o := .cells #[.int .i64 bk, .int .i64 bl, .int .i64 bF, .int .i64 bd] 34 (0, 0)) (nb ba) bt.out (by simp)); replace HK := Aside0.mk (KeepBut.trans (nK HK) hk (.inl rfl)); replace HB := Aside0.mk (hb); replace HI0 := Aside0.mk (hi); (try clear hb); have iD := bN.out; have iE := bs.out; have iF := bt.out; have iG := bX.out; obtain ⟨iH, iI, iJ, iK⟩ := c4e ba; obtain ⟨iL, iM, iN, iO⟩ := z4_ ba; have iP := bH.out; have iQ := d5.out; obtain ⟨iR, iS, iT, iU⟩ := c4e bb; obtain ⟨iV, iW, iX, iY⟩ := z4_ bb))
      refine bodyPost_ret (results_cell_row rfl _ _ bm 34 #[.int .i64 bk, .int .i64 bl, .int .i64 bF, .int .i64 bd] (0, 0) _ rfl (q4 bb) Try.underlying34 rfl (by kernel_rfl)) rfl ?_; exact ⟨er_, IsS69.n, IsS69.nb, nK HK⟩

end Go.Proofs.Ytednioabjiabiaa.PFnMemory
