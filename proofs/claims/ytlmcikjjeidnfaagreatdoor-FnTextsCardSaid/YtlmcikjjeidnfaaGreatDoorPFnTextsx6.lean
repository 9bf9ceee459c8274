-- Written by a program of this session (wip/patch.py turns a copy of the kit's print): the functions that the law reaches, and their walks.
import Derived.Test.YtlmcikjjeidnfaaGreatDoorPFnTextsx0
import Derived.Test.YtlmcikjjeidnfaaGreatDoorPFnTextsx5
import Derived.Test.YtlmcikjjeidnfaaGreatDoorCFnTexts
namespace Go.Proofs.YtlmcikjjeidnfaaGreatDoor.PFnTexts
open Go.RowKit Go.Proofs.YtlmcikjjeidnfaaGreatDoorW.PrintWords Go.Proofs.YtlmcikjjeidnfaaGreatDoorW.PrintLast Go.Proofs.YtlmcikjjeidnfaaGreatDoorW.PrintMore Go.Proofs.YtlmcikjjeidnfaaGreatDoorW.Mine
attribute [local go_sem] max2_int min2_int max_two min_two max_three min_three max_four min_four   -- for this text's walks alone
set_option linter.unusedVariables false
set_option linter.unusedSimpArgs false

/-! ### strings_TrimPrefix: function 34 -/
def strings_TrimPrefix.f (a0 : ByteArray) (a1 : ByteArray) : Option (ByteArray) := (stringslite_TrimPrefix.f a0 a1).bind fun bg => (some bg)
set_option maxHeartbeats 8000000 in
set_option maxRecDepth 100000 in
theorem strings_TrimPrefix.calls (a0 : ByteArray) (a1 : ByteArray) (r : ByteArray) (w : World) (h : strings_TrimPrefix.f a0 a1 = some r) :
  Calls Tryz.prog 34 #[.string a0, .string a1] w fun e w' => e = .returned (.string r) ∧ Drawn0 w w' := by
 have H : ((stringslite_TrimPrefix.f a0 a1).bind fun bg => (some bg)) = some r := h; clear h; replace H := Option.bind_eq_some_iff.mp H; obtain ⟨bg, A30, H⟩ := H; replace H : (some bg) = some r := H; have A3 := Aside0.mk A30; clear A30; obtain rfl := Option.some.inj H
 go_enter Tryz.func34, Tryz.ntmps34
 go_wp2_with (first | ((with_reducible refine gate_callee (f := 56) rfl ?_); refine goesM (some 7) rfl rfl Tryz.func56 (by kernel_rfl) rfl #[.string a0, .string a1] rfl ?_; (with_reducible refine (stringslite_TrimPrefix.calls a0 a1 bg _ A3.out).mono ?_); rintro e w' ⟨rfl, ⟨nd, rfl⟩⟩; refine ⟨_, rfl, ?_⟩))
 go_ret
 exact ⟨by first | rfl | (simp; done) | (simp [*]; done), by repeat (first | exact Drawn0.refl _ | apply Drawn0.step)⟩

/-! ### impl_withPart: function 35 -/
def impl_withPart.f (a0_0 : Int) (a0_1 : Int) (a0_2 : Int) (a0_3 : Int) (a0_4 : Int) (a1 : Int) (a2 : Int) : Option (Int × Int × Int × Int × Int) := if a1 = 82 then (some (a0_0, a2, a0_2, a0_3, a0_4)) else (if a1 = 65 then (some (a0_0, a0_1, a2, a0_3, a0_4)) else (if a1 = 66 then (some (a0_0, a0_1, a0_2, a2, a0_4)) else (if a1 = 78 then (some (a0_0, a0_1, a0_2, a0_3, a2)) else (some (a0_0, a0_1, a0_2, a0_3, a0_4)))))
set_option maxHeartbeats 8000000 in
set_option maxRecDepth 100000 in
theorem impl_withPart.calls (a0_0 : Int) (a0_1 : Int) (a0_2 : Int) (a0_3 : Int) (a0_4 : Int) (a1 : Int) (a2 : Int) (r1 : Int) (r2 : Int) (r3 : Int) (r4 : Int) (r5 : Int) (w : World) (h : impl_withPart.f a0_0 a0_1 a0_2 a0_3 a0_4 a1 a2 = some (r1, r2, r3, r4, r5)) :
  Calls Tryz.prog 35 #[.agg #[.int .i64 a0_0, .int .i64 a0_1, .int .i64 a0_2, .int .i64 a0_3, .int .i64 a0_4], .int .u8 a1, .int .i64 a2] w fun e w' => e = .returned (.agg #[.int .i64 r1, .int .i64 r2, .int .i64 r3, .int .i64 r4, .int .i64 r5]) ∧ Below w.heap.size w w' := by
 have hu25 := Tryz.underlying25; have HB := Aside0.mk (Below.refl w.heap.size w); have H : (if a1 = 82 then (some (a0_0, a2, a0_2, a0_3, a0_4)) else (if a1 = 65 then (some (a0_0, a0_1, a2, a0_3, a0_4)) else (if a1 = 66 then (some (a0_0, a0_1, a0_2, a2, a0_4)) else (if a1 = 78 then (some (a0_0, a0_1, a0_2, a0_3, a2)) else (some (a0_0, a0_1, a0_2, a0_3, a0_4)))))) = some (r1, r2, r3, r4, r5) := h; clear h
 by_cases c4 : a1 = 82
 ·rw [if_pos c4] at H
  have c4b0 : (a1 == 82) = true := beq_iff_eq.mpr c4; have c4b1 : (a1 != 82) = false := bne_eq_false_iff_eq.mpr c4; clear c4; simp only [Option.some.injEq, Prod.mk.injEq] at H; obtain ⟨rfl, rfl, rfl, rfl, rfl⟩ := H
  go_enter Tryz.func35, Tryz.ntmps35
  go_wp2_with (first | ((with_reducible refine gate_dst (N := 3) rfl ?_); refine bxe 3 #[.int .i64 a0_0, .int .i64 a0_1, .int .i64 a0_2, .int .i64 a0_3, .int .i64 a0_4] 25 ?_; intro bh hg w5 hbox hb; have ba := hbox; have bi := nge HB hg; have bj := nge HB hg; replace HB := nbs HB hb; clear hb hbox hg) | ((with_reducible refine gate_dst (N := 6) rfl ?_); refine bxe 6 #[.int .i64 0, .int .i64 0, .int .i64 0, .int .i64 0, .int .i64 0] 25 ?_; intro bd hg w6 hbox hb; have bb := hbox; have bk := nge HB hg; have bl := nge HB hg; have bf := nlt ba hg; have bc := ngt ba hg; replace ba := nblk ba hb; replace HB := nbs HB hb; clear hb hbox hg; have bm := bf.out; have bn := bc.out; obtain ⟨bo, bp, bq, br, bs⟩ := c5e ba; obtain ⟨bt, bu, bv, bw, bx⟩ := z5_ ba; obtain ⟨bz, bA, bB, bC, bD⟩ := c5e bb; obtain ⟨bE, bF, bG, bH, bI⟩ := z5_ bb))
  refine bodyPost_ret (results_cell_row rfl _ _ bd 25 #[.int .i64 a0_0, .int .i64 a2, .int .i64 a0_2, .int .i64 a0_3, .int .i64 a0_4] (0, 0) _ rfl (p5 bb (k1_ bc.out (nb bb))) Tryz.underlying25 rfl (by kernel_rfl)) rfl ?_; exact ⟨er_, nbe HB⟩
 ·rw [if_neg c4] at H
  have c4b0 : (a1 == 82) = false := beq_eq_false_iff_ne.mpr c4; have c4b1 : (a1 != 82) = true := bne_iff_ne.mpr c4
  by_cases c10 : a1 = 65
  ·rw [if_pos c10] at H
   have c10b0 : (a1 == 65) = true := beq_iff_eq.mpr c10; have c10b1 : (a1 != 65) = false := bne_eq_false_iff_eq.mpr c10; clear c10; simp only [Option.some.injEq, Prod.mk.injEq] at H; obtain ⟨rfl, rfl, rfl, rfl, rfl⟩ := H
   go_enter Tryz.func35, Tryz.ntmps35
   go_wp2_with (first | ((with_reducible refine gate_dst (N := 3) rfl ?_); refine bxe 3 #[.int .i64 a0_0, .int .i64 a0_1, .int .i64 a0_2, .int .i64 a0_3, .int .i64 a0_4] 25 ?_; intro bh hg bJ hbox hb; have ba := hbox; have bi := nge HB hg; have bj := nge HB hg; replace HB := nbs HB hb; clear hb hbox hg) | ((with_reducible refine gate_dst (N := 6) rfl ?_); refine bxe 6 #[.int .i64 0, .int .i64 0, .int .i64 0, .int .i64 0, .int .i64 0] 25 ?_; intro bd hg bK hbox hb; have bb := hbox; have bk := nge HB hg; have bl := nge HB hg; have bf := nlt ba hg; have bc := ngt ba hg; replace ba := nblk ba hb; replace HB := nbs HB hb; clear hb hbox hg; have bL := bf.out; have bM := bc.out; obtain ⟨bN, bO, bP, bQ, bR⟩ := c5e ba; obtain ⟨bS, bT, bU, bV, bW⟩ := z5_ ba; obtain ⟨bX, bY, bZ, b0, b1⟩ := c5e bb; obtain ⟨b2, b3, b4, b5, b6⟩ := z5_ bb))
   refine bodyPost_ret (results_cell_row rfl _ _ bd 25 #[.int .i64 a0_0, .int .i64 a0_1, .int .i64 a2, .int .i64 a0_3, .int .i64 a0_4] (0, 0) _ rfl (p5 bb (k1_ bc.out (nb bb))) Tryz.underlying25 rfl (by kernel_rfl)) rfl ?_; exact ⟨er_, nbe HB⟩
  ·rw [if_neg c10] at H
   have c10b0 : (a1 == 65) = false := beq_eq_false_iff_ne.mpr c10; have c10b1 : (a1 != 65) = true := bne_iff_ne.mpr c10
   by_cases c16 : a1 = 66
   ·rw [if_pos c16] at H
    have c16b0 : (a1 == 66) = true := beq_iff_eq.mpr c16; have c16b1 : (a1 != 66) = false := bne_eq_false_iff_eq.mpr c16; clear c16; simp only [Option.some.injEq, Prod.mk.injEq] at H; obtain ⟨rfl, rfl, rfl, rfl, rfl⟩ := H
    go_enter Tryz.func35, Tryz.ntmps35
    go_wp2_with (first | ((with_reducible refine gate_dst (N := 3) rfl ?_); refine bxe 3 #[.int .i64 a0_0, .int .i64 a0_1, .int .i64 a0_2, .int .i64 a0_3, .int .i64 a0_4] 25 ?_; intro bh hg b7 hbox hb; have ba := hbox; have bi := nge HB hg; have bj := nge HB hg; replace HB := nbs HB hb; clear hb hbox hg) | ((with_reducible refine gate_dst (N := 6) rfl ?_); refine bxe 6 #[.int .i64 0, .int .i64 0, .int .i64 0, .int .i64 0, .int .i64 0] 25 ?_; intro bd hg b8 hbox hb; have bb := hbox; have bk := nge HB hg; have bl := nge HB hg; have bf := nlt ba hg; have bc := ngt ba hg; replace ba := nblk ba hb; replace HB := nbs HB hb; clear hb hbox hg; have b9 := bf.out; have da := bc.out; obtain ⟨db, dc, dd, de, df⟩ := c5e ba; obtain ⟨dg, dh, di, dj, dk⟩ := z5_ ba; obtain ⟨dl, dm, dn, dp, dq⟩ := c5e bb; obtain ⟨dr, ds, dt, du, dv⟩ := z5_ bb))
    refine bodyPost_ret (results_cell_row rfl _ _ bd 25 #[.int .i64 a0_0, .int .i64 a0_1, .int .i64 a0_2, .int .i64 a2, .int .i64 a0_4] (0, 0) _ rfl (p5 bb (k1_ bc.out (nb bb))) Tryz.underlying25 rfl (by kernel_rfl)) rfl ?_; exact ⟨er_, nbe HB⟩
   ·rw [if_neg c16] at H
    have c16b0 : (a1 == 66) = false := beq_eq_false_iff_ne.mpr c16; have c16b1 : (a1 != 66) = true := bne_iff_ne.mpr c16
    by_cases c22 : a1 = 78
    ·rw [if_pos c22] at H
     have c22b0 : (a1 == 78) = true := beq_iff_eq.mpr c22; have c22b1 : (a1 != 78) = false := bne_eq_false_iff_eq.mpr c22; clear c22; simp only [Option.some.injEq, Prod.mk.injEq] at H; obtain ⟨rfl, rfl, rfl, rfl, rfl⟩ := H
     go_enter Tryz.func35, Tryz.ntmps35
     go_wp2_with (first | ((with_reducible refine gate_dst (N := 3) rfl ?_); refine bxe 3 #[.int .i64 a0_0, .int .i64 a0_1, .int .i64 a0_2, .int .i64 a0_3, .int .i64 a0_4] 25 ?_; intro bh hg dw hbox hb; have ba := hbox; have bi := nge HB hg; have bj := nge HB hg; replace HB := nbs HB hb; clear hb hbox hg) | ((with_reducible refine gate_dst (N := 6) rfl ?_); refine bxe 6 #[.int .i64 0, .int .i64 0, .int .i64 0, .int .i64 0, .int .i64 0] 25 ?_; intro bd hg dx hbox hb; have bb := hbox; have bk := nge HB hg; have bl := nge HB hg; have bf := nlt ba hg; have bc := ngt ba hg; replace ba := nblk ba hb; replace HB := nbs HB hb; clear hb hbox hg; have dy := bf.out; have dz := bc.out; obtain ⟨dA, dB, dC, dD, dE⟩ := c5e ba; obtain ⟨dF, dG, dH, dI, dJ⟩ := z5_ ba; obtain ⟨dK, dL, dM, dN, dO⟩ := c5e bb; obtain ⟨dP, dQ, dR, dS, dT⟩ := z5_ bb))
     refine bodyPost_ret (results_cell_row rfl _ _ bd 25 #[.int .i64 a0_0, .int .i64 a0_1, .int .i64 a0_2, .int .i64 a0_3, .int .i64 a2] (0, 0) _ rfl (p5 bb (k1_ bc.out (nb bb))) Tryz.underlying25 rfl (by kernel_rfl)) rfl ?_; exact ⟨er_, nbe HB⟩
    ·rw [if_neg c22] at H
     have c22b0 : (a1 == 78) = false := beq_eq_false_iff_ne.mpr c22; have c22b1 : (a1 != 78) = true := bne_iff_ne.mpr c22; simp only [Option.some.injEq, Prod.mk.injEq] at H; obtain ⟨rfl, rfl, rfl, rfl, rfl⟩ := H
     go_enter Tryz.func35, Tryz.ntmps35
     go_wp2_with (first | ((with_reducible refine gate_dst (N := 3) rfl ?_); refine bxe 3 #[.int .i64 a0_0, .int .i64 a0_1, .int .i64 a0_2, .int .i64 a0_3, .int .i64 a0_4] 25 ?_; intro bh hg dU hbox hb; have ba := hbox; have bi := nge HB hg; have bj := nge HB hg; replace HB := nbs HB hb; clear hb hbox hg) | ((with_reducible refine gate_dst (N := 6) rfl ?_); refine bxe 6 #[.int .i64 0, .int .i64 0, .int .i64 0, .int .i64 0, .int .i64 0] 25 ?_; intro bd hg dV hbox hb; have bb := hbox; have bk := nge HB hg; have bl := nge HB hg; have bf := nlt ba hg; have bc := ngt ba hg; replace ba := nblk ba hb; replace HB := nbs HB hb; clear hb hbox hg; have dW := bf.out; have dX := bc.out; obtain ⟨dY, dZ, d0, d1, d2⟩ := c5e ba; obtain ⟨d3, d4, d5, d6, d7⟩ := z5_ ba; obtain ⟨d8, d9, ea, eb, ec⟩ := c5e bb; obtain ⟨ed, ee, ef, eg, eh⟩ := z5_ bb))
     refine bodyPost_ret (results_cell_row rfl _ _ bd 25 #[.int .i64 a0_0, .int .i64 a0_1, .int .i64 a0_2, .int .i64 a0_3, .int .i64 a0_4] (0, 0) _ rfl (q5 bb) Tryz.underlying25 rfl (by kernel_rfl)) rfl ?_; exact ⟨er_, nbe HB⟩

end Go.Proofs.YtlmcikjjeidnfaaGreatDoor.PFnTexts
