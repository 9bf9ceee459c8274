-- Written by a program of this session (wip/patch.py turns a copy of the kit's print): the functions that the law reaches, and their walks.
import Derived.Test.YtiliggbholjdjaaPFnKeysx0
import Derived.Test.YtiliggbholjdjaaPFnKeysx1
import Derived.Test.YtiliggbholjdjaaPFnKeysx3
import Derived.Test.YtiliggbholjdjaaCFnKeys
namespace Go.Proofs.Ytiliggbholjdjaa.PFnKeys
open Go.RowKit Go.Proofs.YtiliggbholjdjaaW.PrintWords Go.Proofs.YtiliggbholjdjaaW.PrintLast Go.Proofs.YtiliggbholjdjaaW.PrintMore Go.Proofs.YtiliggbholjdjaaW.Mine
attribute [local go_sem] max2_int min2_int max_two min_two max_three min_three max_four min_four   -- for this text's walks alone
set_option linter.unusedVariables false
set_option linter.unusedSimpArgs false

/-! ### spec_l2DrawTwo: function 80 -/
def spec_l2DrawTwo.f (k : Nat) (l0 : List Int) : Option (Int × Int × Int × Int × Int × Int × Int × Int) := (spec_l1New.f k l0).bind fun bt192 => ((spec_l2Draw.f k bt192.1 bt192.2.1 bt192.2.2).bind fun bt196 => ((spec_l2Draw.f k bt192.1 bt196.2.2.2.2.1 bt196.2.2.2.2.2).bind fun bt203 => ((spec_l1Once.f bt192.1 bt203.2.2.2.2.1 bt203.2.2.2.2.2 2).bind fun bt210 => (if bt210.1 = true then ((spec_l1Below.f bt192.1 bt210.2.1 bt210.2.2 64).bind fun bt213 => (if (wrap64 (bt196.2.1 - bt196.1)) > 2 then (if bt196.2.1 ≤ 62 then (some (bt196.1, bt196.2.1, bt196.2.2.1, bt196.2.2.2.1, wrap64 (bt196.1 + 1), bt196.2.1, Go.bits .and .i64 bt196.2.2.1 bt213.1, bt196.2.2.2.1)) else (some (bt196.1, bt196.2.1, bt196.2.2.1, bt196.2.2.2.1, bt196.1, bt196.2.1, Go.bits .and .i64 bt196.2.2.1 bt213.1, bt196.2.2.2.1))) else (some (bt196.1, bt196.2.1, bt196.2.2.1, bt196.2.2.2.1, bt196.1, bt196.2.1, Go.bits .and .i64 bt196.2.2.1 bt213.1, bt196.2.2.2.1)))) else (some (bt196.1, bt196.2.1, bt196.2.2.1, bt196.2.2.2.1, bt203.1, bt203.2.1, bt203.2.2.1, bt203.2.2.2.1))))))
theorem spec_l2DrawTwo.mono : ∀ a0 k, LeO (spec_l2DrawTwo.f k a0) (spec_l2DrawTwo.f (k + 1) a0) := by
 intro a0 k
 unfold spec_l2DrawTwo.f
 repeat' first
   | (with_reducible exact spec_l1New.mono _ _)
   | (with_reducible exact spec_l2Draw.mono _ _ _ _)
   | (with_reducible exact LeO.refl _)
   | (with_reducible exact LeO.none _)
   | (with_reducible refine LeO.ite ?_ ?_)
   | (with_reducible refine LeO.bind ?_ (fun _ => ?_))
   | exact spec_l1New.mono _ _
   | exact spec_l2Draw.mono _ _ _ _
   | exact LeO.none _
   | refine LeO.ite ?_ ?_
   | refine LeO.bind ?_ (fun _ => ?_)
set_option maxHeartbeats 8000000 in
set_option maxRecDepth 100000 in
theorem spec_l2DrawTwo.calls (k : Nat) (A0 : Option Addr) (c0 : Nat) (l0 : List Int) (r1 : Int) (r2 : Int) (r3 : Int) (r4 : Int) (r5 : Int) (r6 : Int) (r7 : Int) (r8 : Int) (w : World) (hr0 : Kd.C (Kd.int .u8) w A0 l0.length l0) (hc0 : l0.length ≤ c0) (h : spec_l2DrawTwo.f k l0 = some (r1, r2, r3, r4, r5, r6, r7, r8)) :
  Calls Try.prog 80 #[.slice A0 l0.length c0] w fun e w' => e = .returned (.tuple #[.agg #[.int .i64 r1, .int .i64 r2, .int .i64 r3, .int .i64 r4], .agg #[.int .i64 r5, .int .i64 r6, .int .i64 r7, .int .i64 r8]]) ∧ Below w.heap.size w w' := by
 have hu25 := Try.underlying25
 have HR0 := Aside0.mk hr0
 have HC0 := Aside0.mk hc0
 clear hr0 hc0
 have HB := Aside0.mk (Below.refl w.heap.size w)
 have H : ((spec_l1New.f k l0).bind fun bt192 => ((spec_l2Draw.f k bt192.1 bt192.2.1 bt192.2.2).bind fun bt196 => ((spec_l2Draw.f k bt192.1 bt196.2.2.2.2.1 bt196.2.2.2.2.2).bind fun bt203 => ((spec_l1Once.f bt192.1 bt203.2.2.2.2.1 bt203.2.2.2.2.2 2).bind fun bt210 => (if bt210.1 = true then ((spec_l1Below.f bt192.1 bt210.2.1 bt210.2.2 64).bind fun bt213 => (if (wrap64 (bt196.2.1 - bt196.1)) > 2 then (if bt196.2.1 ≤ 62 then (some (bt196.1, bt196.2.1, bt196.2.2.1, bt196.2.2.2.1, wrap64 (bt196.1 + 1), bt196.2.1, Go.bits .and .i64 bt196.2.2.1 bt213.1, bt196.2.2.2.1)) else (some (bt196.1, bt196.2.1, bt196.2.2.1, bt196.2.2.2.1, bt196.1, bt196.2.1, Go.bits .and .i64 bt196.2.2.1 bt213.1, bt196.2.2.2.1))) else (some (bt196.1, bt196.2.1, bt196.2.2.1, bt196.2.2.2.1, bt196.1, bt196.2.1, Go.bits .and .i64 bt196.2.2.1 bt213.1, bt196.2.2.2.1)))) else (some (bt196.1, bt196.2.1, bt196.2.2.1, bt196.2.2.2.1, bt203.1, bt203.2.1, bt203.2.2.1, bt203.2.2.2.1))))))) = some (r1, r2, r3, r4, r5, r6, r7, r8) := h
 clear h
 replace H := Option.bind_eq_some_iff.mp H
 obtain ⟨⟨t192, t193, t194⟩, A20, H⟩ := H
 replace H : ((spec_l2Draw.f k t192 t193 t194).bind fun bt196 => ((spec_l2Draw.f k t192 bt196.2.2.2.2.1 bt196.2.2.2.2.2).bind fun bt203 => ((spec_l1Once.f t192 bt203.2.2.2.2.1 bt203.2.2.2.2.2 2).bind fun bt210 => (if bt210.1 = true then ((spec_l1Below.f t192 bt210.2.1 bt210.2.2 64).bind fun bt213 => (if (wrap64 (bt196.2.1 - bt196.1)) > 2 then (if bt196.2.1 ≤ 62 then (some (bt196.1, bt196.2.1, bt196.2.2.1, bt196.2.2.2.1, wrap64 (bt196.1 + 1), bt196.2.1, Go.bits .and .i64 bt196.2.2.1 bt213.1, bt196.2.2.2.1)) else (some (bt196.1, bt196.2.1, bt196.2.2.1, bt196.2.2.2.1, bt196.1, bt196.2.1, Go.bits .and .i64 bt196.2.2.1 bt213.1, bt196.2.2.2.1))) else (some (bt196.1, bt196.2.1, bt196.2.2.1, bt196.2.2.2.1, bt196.1, bt196.2.1, Go.bits .and .i64 bt196.2.2.1 bt213.1, bt196.2.2.2.1)))) else (some (bt196.1, bt196.2.1, bt196.2.2.1, bt196.2.2.2.1, bt203.1, bt203.2.1, bt203.2.2.1, bt203.2.2.2.1)))))) = some (r1, r2, r3, r4, r5, r6, r7, r8) := H
 have A2 := Aside0.mk A20
 clear A20
 replace H := Option.bind_eq_some_iff.mp H
 obtain ⟨⟨t196, t197, t198, t199, t200, t201⟩, A30, H⟩ := H
 replace H : ((spec_l2Draw.f k t192 t200 t201).bind fun bt203 => ((spec_l1Once.f t192 bt203.2.2.2.2.1 bt203.2.2.2.2.2 2).bind fun bt210 => (if bt210.1 = true then ((spec_l1Below.f t192 bt210.2.1 bt210.2.2 64).bind fun bt213 => (if (wrap64 (t197 - t196)) > 2 then (if t197 ≤ 62 then (some (t196, t197, t198, t199, wrap64 (t196 + 1), t197, Go.bits .and .i64 t198 bt213.1, t199)) else (some (t196, t197, t198, t199, t196, t197, Go.bits .and .i64 t198 bt213.1, t199))) else (some (t196, t197, t198, t199, t196, t197, Go.bits .and .i64 t198 bt213.1, t199)))) else (some (t196, t197, t198, t199, bt203.1, bt203.2.1, bt203.2.2.1, bt203.2.2.2.1))))) = some (r1, r2, r3, r4, r5, r6, r7, r8) := H
 have A3 := Aside0.mk A30
 clear A30
 replace H := Option.bind_eq_some_iff.mp H
 obtain ⟨⟨t203, t204, t205, t206, t207, t208⟩, A40, H⟩ := H
 replace H : ((spec_l1Once.f t192 t207 t208 2).bind fun bt210 => (if bt210.1 = true then ((spec_l1Below.f t192 bt210.2.1 bt210.2.2 64).bind fun bt213 => (if (wrap64 (t197 - t196)) > 2 then (if t197 ≤ 62 then (some (t196, t197, t198, t199, wrap64 (t196 + 1), t197, Go.bits .and .i64 t198 bt213.1, t199)) else (some (t196, t197, t198, t199, t196, t197, Go.bits .and .i64 t198 bt213.1, t199))) else (some (t196, t197, t198, t199, t196, t197, Go.bits .and .i64 t198 bt213.1, t199)))) else (some (t196, t197, t198, t199, t203, t204, t205, t206)))) = some (r1, r2, r3, r4, r5, r6, r7, r8) := H
 have A4 := Aside0.mk A40
 clear A40
 replace H := Option.bind_eq_some_iff.mp H
 obtain ⟨⟨t210, t211, t212⟩, A50, H⟩ := H
 replace H : (if t210 = true then ((spec_l1Below.f t192 t211 t212 64).bind fun bt213 => (if (wrap64 (t197 - t196)) > 2 then (if t197 ≤ 62 then (some (t196, t197, t198, t199, wrap64 (t196 + 1), t197, Go.bits .and .i64 t198 bt213.1, t199)) else (some (t196, t197, t198, t199, t196, t197, Go.bits .and .i64 t198 bt213.1, t199))) else (some (t196, t197, t198, t199, t196, t197, Go.bits .and .i64 t198 bt213.1, t199)))) else (some (t196, t197, t198, t199, t203, t204, t205, t206))) = some (r1, r2, r3, r4, r5, r6, r7, r8) := H
 have A5 := Aside0.mk A50
 clear A50
 by_cases c6 : t210 = true
 ·subst c6
  have H1 : ((spec_l1Below.f t192 t211 t212 64).bind fun bt213 => (if (wrap64 (t197 - t196)) > 2 then (if t197 ≤ 62 then (some (t196, t197, t198, t199, wrap64 (t196 + 1), t197, Go.bits .and .i64 t198 bt213.1, t199)) else (some (t196, t197, t198, t199, t196, t197, Go.bits .and .i64 t198 bt213.1, t199))) else (some (t196, t197, t198, t199, t196, t197, Go.bits .and .i64 t198 bt213.1, t199)))) = some (r1, r2, r3, r4, r5, r6, r7, r8) := by rw [if_pos rfl] at H; exact H
  clear H
  have H := H1
  clear H1
  replace H := Option.bind_eq_some_iff.mp H
  obtain ⟨⟨t213, t214, t215⟩, A70, H⟩ := H
  replace H : (if (wrap64 (t197 - t196)) > 2 then (if t197 ≤ 62 then (some (t196, t197, t198, t199, wrap64 (t196 + 1), t197, Go.bits .and .i64 t198 t213, t199)) else (some (t196, t197, t198, t199, t196, t197, Go.bits .and .i64 t198 t213, t199))) else (some (t196, t197, t198, t199, t196, t197, Go.bits .and .i64 t198 t213, t199))) = some (r1, r2, r3, r4, r5, r6, r7, r8) := H
  have A7 := Aside0.mk A70
  clear A70
  by_cases c8 : (wrap64 (t197 - t196)) > 2
  ·rw [if_pos c8] at H
   have c8b0 : decide (2 < (wrap64 (t197 - t196))) = true := decide_eq_true c8
   clear c8
   by_cases c9 : t197 ≤ 62
   ·rw [if_pos c9] at H
    have c9b0 : decide (t197 ≤ 62) = true := decide_eq_true c9
    clear c9
    simp only [Option.some.injEq, Prod.mk.injEq] at H
    obtain ⟨rfl, rfl, rfl, rfl, rfl, rfl, rfl, rfl⟩ := H
    go_enter Try.func80, Try.ntmps80
    try go_wp2_with (first | ((with_reducible refine gate_dst (N := 2) rfl ?_); refine box_event ?hg (N := 2) ?hd (cs := #[.int .i64 0, .int .i64 0, .int .i64 0, .int .i64 0]) (t := 25) ?hr ?_; (case hd => rfl); (case hg => rfl); (case hr => first | (go_simp; done) | (go_simp; rfl)); intro gb190 hg w10 hbox hb; have n0_ := nbs HB hb; have n1_ := Aside0.mk (hbox); have n2_ := nge HB hg; have n3_ := nge HB hg; clear HB; have HB := n0_; have BK190 := n1_; have GW190 := n2_; have GE190 := n3_; clear n0_ n1_ n2_ n3_; clear hb hbox hg) | ((with_reducible refine gate_dst (N := 3) rfl ?_); refine box_event ?hg (N := 3) ?hd (cs := #[.int .i64 0, .int .i64 0, .int .i64 0, .int .i64 0]) (t := 25) ?hr ?_; (case hd => rfl); (case hg => rfl); (case hr => first | (go_simp; done) | (go_simp; rfl)); intro gb191 hg w11 hbox hb; have n0_ := nblk BK190 hb; have n1_ := nbs HB hb; have n2_ := Aside0.mk (hbox); have n3_ := nge HB hg; have n4_ := nge HB hg; have n5_ := nlt BK190 hg; have n6_ := ngt BK190 hg; clear BK190 HB; have BK190 := n0_; have HB := n1_; have BK191 := n2_; have GW191 := n3_; have GE191 := n4_; have NB190_191 := n5_; have NB191_190 := n6_; clear n0_ n1_ n2_ n3_ n4_ n5_ n6_; clear hb hbox hg) | ((with_reducible refine gate_callee (f := 71) rfl ?_); refine goesM (some 8) rfl rfl Try.func71 (by kernel_rfl) rfl #[.slice A0 l0.length c0] rfl ?_; (with_reducible refine (spec_l1New.calls k _ _ l0 t192 t193 t194 w _ ?side1 ?side2 ?side3 A2.out).mono ?_); (case side1 => repeat (first | (with_reducible first | exact HB.out | apply below_alloc | apply pw_below_drewN | apply below_drew1 | refine below_set ?_ GE190.out | refine below_set ?_ GE191.out) | exact HB.out)); (case side2 => exact HR0.out); (case side3 => exact HC0.out); rintro e w12 ⟨g195, rfl, hi, hb, hb2⟩; refine ⟨_, rfl, ?_⟩; have n0_ := Aside0.mk (blk_below (g := gb190) (o := .cells #[.int .i64 0, .int .i64 0, .int .i64 0, .int .i64 0] 25 (0, 0)) (nb BK190) hb2); have n1_ := Aside0.mk (blk_below (g := gb191) (o := .cells #[.int .i64 0, .int .i64 0, .int .i64 0, .int .i64 0] 25 (0, 0)) (nb BK191) hb2); have n2_ := Aside0.mk (hb); have n3_ := Aside0.mk (hi); have n4_ := Aside0.mk (IsS90.ne_blk hi (blk_below (g := gb190) (o := .cells #[.int .i64 0, .int .i64 0, .int .i64 0, .int .i64 0] 25 (0, 0)) (nb BK190) hb2) (by decide)); have n5_ := Aside0.mk (Ne.symm (IsS90.ne_blk hi (blk_below (g := gb190) (o := .cells #[.int .i64 0, .int .i64 0, .int .i64 0, .int .i64 0] 25 (0, 0)) (nb BK190) hb2) (by decide))); have n6_ := Aside0.mk (IsS90.ne_blk hi (blk_below (g := gb191) (o := .cells #[.int .i64 0, .int .i64 0, .int .i64 0, .int .i64 0] 25 (0, 0)) (nb BK191) hb2) (by decide)); have n7_ := Aside0.mk (Ne.symm (IsS90.ne_blk hi (blk_below (g := gb191) (o := .cells #[.int .i64 0, .int .i64 0, .int .i64 0, .int .i64 0] 25 (0, 0)) (nb BK191) hb2) (by decide))); clear BK190 BK191 HB; have BK190 := n0_; have BK191 := n1_; have HB := n2_; have HI195 := n3_; have NB195_190 := n4_; have NB190_195 := n5_; have NB195_191 := n6_; have NB191_195 := n7_; clear n0_ n1_ n2_ n3_ n4_ n5_ n6_ n7_; (try clear hb)) | ((with_reducible refine gate_callee (f := 83) rfl ?_); refine goesM (some 10) rfl rfl Try.func83 (by kernel_rfl) rfl #[.pointer (some ⟨g195, 0, none⟩)] rfl ?_; (with_reducible refine (spec_l2Draw.calls k g195 t192 t193 t194 t196 t197 t198 t199 t200 t201 w _ ?side1 ?side2 A3.out).mono ?_); (case side1 => repeat (first | (with_reducible first | exact HI195.out | apply IsS90.alloc | apply IsS90.drewN | apply IsS90.drew | apply IsS90.set_1 | apply IsS90.set_2 | refine IsS90.far ?_ NB195_190.out _ | refine IsS90.far ?_ NB195_191.out _) | exact HI195.out)); (case side2 => repeat (first | (with_reducible first | exact HB.out | apply below_alloc | apply pw_below_drewN | apply below_drew1 | refine below_set ?_ (IsS90.ge HI195.out) | refine below_set ?_ GE190.out | refine below_set ?_ GE191.out) | exact HB.out)); rintro e w13 ⟨rfl, hi, hb, hk⟩; refine ⟨_, rfl, ?_⟩; have n0_ := Aside0.mk (KeepBut.blk hk (g' := gb190) (o := .cells #[.int .i64 0, .int .i64 0, .int .i64 0, .int .i64 0] 25 (0, 0)) (nb BK190) NB190_195.out (by simp)); have n1_ := Aside0.mk (KeepBut.blk hk (g' := gb191) (o := .cells #[.int .i64 0, .int .i64 0, .int .i64 0, .int .i64 0] 25 (0, 0)) (nb BK191) NB191_195.out (by simp)); have n2_ := Aside0.mk (hb); have n3_ := Aside0.mk (hi); clear BK190 BK191 HB HI195; have BK190 := n0_; have BK191 := n1_; have HB := n2_; have HI195 := n3_; clear n0_ n1_ n2_ n3_; (try clear hb)) | ((with_reducible refine gate_dst (N := 5) rfl ?_); refine box_event ?hg (N := 5) ?hd (cs := #[.int .i64 0, .int .i64 0, .int .i64 0, .int .i64 0]) (t := 25) ?hr ?_; (case hd => rfl); (case hg => rfl); (case hr => first | (go_simp; done) | (go_simp; rfl)); intro gb202 hg w14 hbox hb; have n0_ := nblk BK190 hb; have n1_ := nblk BK191 hb; have n2_ := Aside0.mk (IsS90.below (by repeat (first | (with_reducible first | exact HI195.out | apply IsS90.alloc | apply IsS90.drewN | apply IsS90.drew | apply IsS90.set_1 | apply IsS90.set_2 | refine IsS90.far ?_ NB195_190.out _ | refine IsS90.far ?_ NB195_191.out _) | exact HI195.out)) hb); have n3_ := Aside0.mk (below_step (by repeat (first | (with_reducible first | exact HB.out | apply below_alloc | apply pw_below_drewN | apply below_drew1 | refine below_set ?_ (IsS90.ge HI195.out) | refine below_set ?_ GE190.out | refine below_set ?_ GE191.out) | exact HB.out)) hb); have n4_ := Aside0.mk (hbox); have n5_ := Aside0.mk ((by rw [hg]; exact (below_size (by repeat (first | (with_reducible first | exact HB.out | apply below_alloc | apply pw_below_drewN | apply below_drew1 | refine below_set ?_ (IsS90.ge HI195.out) | refine below_set ?_ GE190.out | refine below_set ?_ GE191.out) | exact HB.out))) : w.heap.size ≤ gb202)); have n6_ := Aside0.mk ((by rw [hg]; exact (below_size (by repeat (first | (with_reducible first | exact HB.out | apply below_alloc | apply pw_below_drewN | apply below_drew1 | refine below_set ?_ (IsS90.ge HI195.out) | refine below_set ?_ GE190.out | refine below_set ?_ GE191.out) | exact HB.out))) : w.heap.size ≤ gb202)); have n7_ := nlt BK190 hg; have n8_ := ngt BK190 hg; have n9_ := nlt BK191 hg; have n10_ := ngt BK191 hg; have n11_ := Aside0.mk ((by rw [hg]; exact Nat.ne_of_lt (IsS90.lt (show IsS90 w _ g195 t192 t200 t201 from by repeat (first | (with_reducible first | exact HI195.out | apply IsS90.alloc | apply IsS90.drewN | apply IsS90.drew | apply IsS90.set_1 | apply IsS90.set_2 | refine IsS90.far ?_ NB195_190.out _ | refine IsS90.far ?_ NB195_191.out _) | exact HI195.out))) : g195 ≠ gb202)); have n12_ := Aside0.mk ((by rw [hg]; exact Nat.ne_of_gt (IsS90.lt (show IsS90 w _ g195 t192 t200 t201 from by repeat (first | (with_reducible first | exact HI195.out | apply IsS90.alloc | apply IsS90.drewN | apply IsS90.drew | apply IsS90.set_1 | apply IsS90.set_2 | refine IsS90.far ?_ NB195_190.out _ | refine IsS90.far ?_ NB195_191.out _) | exact HI195.out))) : gb202 ≠ g195)); clear BK190 BK191 HI195 HB; have BK190 := n0_; have BK191 := n1_; have HI195 := n2_; have HB := n3_; have BK202 := n4_; have GW202 := n5_; have GE202 := n6_; have NB190_202 := n7_; have NB202_190 := n8_; have NB191_202 := n9_; have NB202_191 := n10_; have NB195_202 := n11_; have NB202_195 := n12_; clear n0_ n1_ n2_ n3_ n4_ n5_ n6_ n7_ n8_ n9_ n10_ n11_ n12_; clear hb hbox hg; have hnb15 := NB202_190.out; have hnc15 := NB190_202.out; have hnb16 := NB202_191.out; have hnc16 := NB191_202.out; have hnb17 := NB202_195.out; have hnc17 := NB195_202.out; have hcz18_0 : w14.cell? ⟨gb202, 0, none⟩ = some (.int .i64 0) := (blk_cell BK202.out 0).trans rfl; have hcz18_1 : w14.cell? ⟨gb202, 1, none⟩ = some (.int .i64 0) := (blk_cell BK202.out 1).trans rfl; have hcz18_2 : w14.cell? ⟨gb202, 2, none⟩ = some (.int .i64 0) := (blk_cell BK202.out 2).trans rfl; have hcz18_3 : w14.cell? ⟨gb202, 3, none⟩ = some (.int .i64 0) := (blk_cell BK202.out 3).trans rfl; have hfz18_0 := blk_frozen BK202.out 0; have hfz18_1 := blk_frozen BK202.out 1; have hfz18_2 := blk_frozen BK202.out 2; have hfz18_3 := blk_frozen BK202.out 3) | ((with_reducible refine gate_callee (f := 83) rfl ?_); refine goesM (some 12) rfl rfl Try.func83 (by kernel_rfl) rfl #[.pointer (some ⟨g195, 0, none⟩)] rfl ?_; (with_reducible refine (spec_l2Draw.calls k g195 t192 t200 t201 t203 t204 t205 t206 t207 t208 w _ ?side1 ?side2 A4.out).mono ?_); (case side1 => repeat (first | (with_reducible first | exact HI195.out | apply IsS90.alloc | apply IsS90.drewN | apply IsS90.drew | apply IsS90.set_1 | apply IsS90.set_2 | refine IsS90.far ?_ NB195_190.out _ | refine IsS90.far ?_ NB195_191.out _ | refine IsS90.far ?_ NB195_202.out _) | exact HI195.out)); (case side2 => repeat (first | (with_reducible first | exact HB.out | apply below_alloc | apply pw_below_drewN | apply below_drew1 | refine below_set ?_ (IsS90.ge HI195.out) | refine below_set ?_ GE190.out | refine below_set ?_ GE191.out | refine below_set ?_ GE202.out) | exact HB.out)); rintro e w19 ⟨rfl, hi, hb, hk⟩; refine ⟨_, rfl, ?_⟩; have n0_ := Aside0.mk (KeepBut.blk hk (g' := gb190) (o := .cells #[.int .i64 0, .int .i64 0, .int .i64 0, .int .i64 0] 25 (0, 0)) (by (with_reducible repeat (first | refine blk_drewN ?_ _ | refine blk_drew ?_ | refine blk_alloc ?_ _)); refine blk_far ?_ NB190_202.out _; (with_reducible repeat (first | refine blk_drewN ?_ _ | refine blk_drew ?_ | refine blk_alloc ?_ _)); refine blk_far ?_ NB190_202.out _; (with_reducible repeat (first | refine blk_drewN ?_ _ | refine blk_drew ?_ | refine blk_alloc ?_ _)); refine blk_far ?_ NB190_202.out _; (with_reducible repeat (first | refine blk_drewN ?_ _ | refine blk_drew ?_ | refine blk_alloc ?_ _)); refine blk_far ?_ NB190_202.out _; (with_reducible repeat (first | refine blk_drewN ?_ _ | refine blk_drew ?_ | refine blk_alloc ?_ _)); exact BK190.out) NB190_195.out (by simp)); have n1_ := Aside0.mk (KeepBut.blk hk (g' := gb191) (o := .cells #[.int .i64 0, .int .i64 0, .int .i64 0, .int .i64 0] 25 (0, 0)) (by (with_reducible repeat (first | refine blk_drewN ?_ _ | refine blk_drew ?_ | refine blk_alloc ?_ _)); refine blk_far ?_ NB191_202.out _; (with_reducible repeat (first | refine blk_drewN ?_ _ | refine blk_drew ?_ | refine blk_alloc ?_ _)); refine blk_far ?_ NB191_202.out _; (with_reducible repeat (first | refine blk_drewN ?_ _ | refine blk_drew ?_ | refine blk_alloc ?_ _)); refine blk_far ?_ NB191_202.out _; (with_reducible repeat (first | refine blk_drewN ?_ _ | refine blk_drew ?_ | refine blk_alloc ?_ _)); refine blk_far ?_ NB191_202.out _; (with_reducible repeat (first | refine blk_drewN ?_ _ | refine blk_drew ?_ | refine blk_alloc ?_ _)); exact BK191.out) NB191_195.out (by simp)); have n2_ := Aside0.mk (KeepBut.blk hk (g' := gb202) (o := .cells #[.int .i64 t196, .int .i64 t197, .int .i64 t198, .int .i64 t199] 25 (0, 0)) (by (with_reducible repeat (first | refine blk_drewN ?_ _ | refine blk_drew ?_ | refine blk_alloc ?_ _)); refine blk_put (cs := #[.int .i64 t196, .int .i64 t197, .int .i64 t198, .int .i64 0]) ?_ 3 _ rfl; (with_reducible repeat (first | refine blk_drewN ?_ _ | refine blk_drew ?_ | refine blk_alloc ?_ _)); refine blk_put (cs := #[.int .i64 t196, .int .i64 t197, .int .i64 0, .int .i64 0]) ?_ 2 _ rfl; (with_reducible repeat (first | refine blk_drewN ?_ _ | refine blk_drew ?_ | refine blk_alloc ?_ _)); refine blk_put (cs := #[.int .i64 t196, .int .i64 0, .int .i64 0, .int .i64 0]) ?_ 1 _ rfl; (with_reducible repeat (first | refine blk_drewN ?_ _ | refine blk_drew ?_ | refine blk_alloc ?_ _)); refine blk_put (cs := #[.int .i64 0, .int .i64 0, .int .i64 0, .int .i64 0]) ?_ 0 _ rfl; (with_reducible repeat (first | refine blk_drewN ?_ _ | refine blk_drew ?_ | refine blk_alloc ?_ _)); exact BK202.out) NB202_195.out (by simp)); have n3_ := Aside0.mk (hb); have n4_ := Aside0.mk (hi); clear BK190 BK191 BK202 HB HI195; have BK190 := n0_; have BK191 := n1_; have BK202 := n2_; have HB := n3_; have HI195 := n4_; clear n0_ n1_ n2_ n3_ n4_; (try clear hb)) | ((with_reducible refine gate_dst (N := 6) rfl ?_); refine box_event ?hg (N := 6) ?hd (cs := #[.int .i64 0, .int .i64 0, .int .i64 0, .int .i64 0]) (t := 25) ?hr ?_; (case hd => rfl); (case hg => rfl); (case hr => first | (go_simp; done) | (go_simp; rfl)); intro gb209 hg w20 hbox hb; have n0_ := nblk BK190 hb; have n1_ := nblk BK191 hb; have n2_ := Aside0.mk (IsS90.below (by repeat (first | (with_reducible first | exact HI195.out | apply IsS90.alloc | apply IsS90.drewN | apply IsS90.drew | apply IsS90.set_1 | apply IsS90.set_2 | refine IsS90.far ?_ NB195_190.out _ | refine IsS90.far ?_ NB195_191.out _ | refine IsS90.far ?_ NB195_202.out _) | exact HI195.out)) hb); have n3_ := nblk BK202 hb; have n4_ := Aside0.mk (below_step (by repeat (first | (with_reducible first | exact HB.out | apply below_alloc | apply pw_below_drewN | apply below_drew1 | refine below_set ?_ (IsS90.ge HI195.out) | refine below_set ?_ GE190.out | refine below_set ?_ GE191.out | refine below_set ?_ GE202.out) | exact HB.out)) hb); have n5_ := Aside0.mk (hbox); have n6_ := Aside0.mk ((by rw [hg]; exact (below_size (by repeat (first | (with_reducible first | exact HB.out | apply below_alloc | apply pw_below_drewN | apply below_drew1 | refine below_set ?_ (IsS90.ge HI195.out) | refine below_set ?_ GE190.out | refine below_set ?_ GE191.out | refine below_set ?_ GE202.out) | exact HB.out))) : w.heap.size ≤ gb209)); have n7_ := Aside0.mk ((by rw [hg]; exact (below_size (by repeat (first | (with_reducible first | exact HB.out | apply below_alloc | apply pw_below_drewN | apply below_drew1 | refine below_set ?_ (IsS90.ge HI195.out) | refine below_set ?_ GE190.out | refine below_set ?_ GE191.out | refine below_set ?_ GE202.out) | exact HB.out))) : w.heap.size ≤ gb209)); have n8_ := nlt BK190 hg; have n9_ := ngt BK190 hg; have n10_ := nlt BK191 hg; have n11_ := ngt BK191 hg; have n12_ := nlt BK202 hg; have n13_ := ngt BK202 hg; have n14_ := Aside0.mk ((by rw [hg]; exact Nat.ne_of_lt (IsS90.lt (show IsS90 w _ g195 t192 t207 t208 from by repeat (first | (with_reducible first | exact HI195.out | apply IsS90.alloc | apply IsS90.drewN | apply IsS90.drew | apply IsS90.set_1 | apply IsS90.set_2 | refine IsS90.far ?_ NB195_190.out _ | refine IsS90.far ?_ NB195_191.out _ | refine IsS90.far ?_ NB195_202.out _) | exact HI195.out))) : g195 ≠ gb209)); have n15_ := Aside0.mk ((by rw [hg]; exact Nat.ne_of_gt (IsS90.lt (show IsS90 w _ g195 t192 t207 t208 from by repeat (first | (with_reducible first | exact HI195.out | apply IsS90.alloc | apply IsS90.drewN | apply IsS90.drew | apply IsS90.set_1 | apply IsS90.set_2 | refine IsS90.far ?_ NB195_190.out _ | refine IsS90.far ?_ NB195_191.out _ | refine IsS90.far ?_ NB195_202.out _) | exact HI195.out))) : gb209 ≠ g195)); clear BK190 BK191 HI195 BK202 HB; have BK190 := n0_; have BK191 := n1_; have HI195 := n2_; have BK202 := n3_; have HB := n4_; have BK209 := n5_; have GW209 := n6_; have GE209 := n7_; have NB190_209 := n8_; have NB209_190 := n9_; have NB191_209 := n10_; have NB209_191 := n11_; have NB202_209 := n12_; have NB209_202 := n13_; have NB195_209 := n14_; have NB209_195 := n15_; clear n0_ n1_ n2_ n3_ n4_ n5_ n6_ n7_ n8_ n9_ n10_ n11_ n12_ n13_ n14_ n15_; clear hb hbox hg; have hnb21 := NB209_190.out; have hnc21 := NB190_209.out; have hnb22 := NB209_191.out; have hnc22 := NB191_209.out; have hnb23 := NB209_202.out; have hnc23 := NB202_209.out; have hnb24 := NB209_195.out; have hnc24 := NB195_209.out; have hcz25_0 : w20.cell? ⟨gb209, 0, none⟩ = some (.int .i64 0) := (blk_cell BK209.out 0).trans rfl; have hcz25_1 : w20.cell? ⟨gb209, 1, none⟩ = some (.int .i64 0) := (blk_cell BK209.out 1).trans rfl; have hcz25_2 : w20.cell? ⟨gb209, 2, none⟩ = some (.int .i64 0) := (blk_cell BK209.out 2).trans rfl; have hcz25_3 : w20.cell? ⟨gb209, 3, none⟩ = some (.int .i64 0) := (blk_cell BK209.out 3).trans rfl; have hfz25_0 := blk_frozen BK209.out 0; have hfz25_1 := blk_frozen BK209.out 1; have hfz25_2 := blk_frozen BK209.out 2; have hfz25_3 := blk_frozen BK209.out 3) | ((with_reducible refine gate_callee (f := 75) rfl ?_); refine goesM (some 14) rfl rfl Try.func75 (by kernel_rfl) rfl #[.pointer (some ⟨g195, 0, none⟩), .int .i64 2] rfl ?_; (with_reducible refine (spec_l1Once.calls g195 t192 t207 t208 2 true t211 t212 w _ ?side1 ?side2 A5.out).mono ?_); (case side1 => repeat (first | (with_reducible first | exact HI195.out | apply IsS90.alloc | apply IsS90.drewN | apply IsS90.drew | apply IsS90.set_1 | apply IsS90.set_2 | refine IsS90.far ?_ NB195_190.out _ | refine IsS90.far ?_ NB195_191.out _ | refine IsS90.far ?_ NB195_202.out _ | refine IsS90.far ?_ NB195_209.out _) | exact HI195.out)); (case side2 => repeat (first | (with_reducible first | exact HB.out | apply below_alloc | apply pw_below_drewN | apply below_drew1 | refine below_set ?_ (IsS90.ge HI195.out) | refine below_set ?_ GE190.out | refine below_set ?_ GE191.out | refine below_set ?_ GE202.out | refine below_set ?_ GE209.out) | exact HB.out)); rintro e w26 ⟨rfl, hi, hb, hk⟩; refine ⟨_, rfl, ?_⟩; have n0_ := Aside0.mk (KeepBut.blk hk (g' := gb190) (o := .cells #[.int .i64 0, .int .i64 0, .int .i64 0, .int .i64 0] 25 (0, 0)) (by (with_reducible repeat (first | refine blk_drewN ?_ _ | refine blk_drew ?_ | refine blk_alloc ?_ _)); refine blk_far ?_ NB190_209.out _; (with_reducible repeat (first | refine blk_drewN ?_ _ | refine blk_drew ?_ | refine blk_alloc ?_ _)); refine blk_far ?_ NB190_209.out _; (with_reducible repeat (first | refine blk_drewN ?_ _ | refine blk_drew ?_ | refine blk_alloc ?_ _)); refine blk_far ?_ NB190_209.out _; (with_reducible repeat (first | refine blk_drewN ?_ _ | refine blk_drew ?_ | refine blk_alloc ?_ _)); refine blk_far ?_ NB190_209.out _; (with_reducible repeat (first | refine blk_drewN ?_ _ | refine blk_drew ?_ | refine blk_alloc ?_ _)); exact BK190.out) NB190_195.out (by simp)); have n1_ := Aside0.mk (KeepBut.blk hk (g' := gb191) (o := .cells #[.int .i64 0, .int .i64 0, .int .i64 0, .int .i64 0] 25 (0, 0)) (by (with_reducible repeat (first | refine blk_drewN ?_ _ | refine blk_drew ?_ | refine blk_alloc ?_ _)); refine blk_far ?_ NB191_209.out _; (with_reducible repeat (first | refine blk_drewN ?_ _ | refine blk_drew ?_ | refine blk_alloc ?_ _)); refine blk_far ?_ NB191_209.out _; (with_reducible repeat (first | refine blk_drewN ?_ _ | refine blk_drew ?_ | refine blk_alloc ?_ _)); refine blk_far ?_ NB191_209.out _; (with_reducible repeat (first | refine blk_drewN ?_ _ | refine blk_drew ?_ | refine blk_alloc ?_ _)); refine blk_far ?_ NB191_209.out _; (with_reducible repeat (first | refine blk_drewN ?_ _ | refine blk_drew ?_ | refine blk_alloc ?_ _)); exact BK191.out) NB191_195.out (by simp)); have n2_ := Aside0.mk (KeepBut.blk hk (g' := gb202) (o := .cells #[.int .i64 t196, .int .i64 t197, .int .i64 t198, .int .i64 t199] 25 (0, 0)) (by (with_reducible repeat (first | refine blk_drewN ?_ _ | refine blk_drew ?_ | refine blk_alloc ?_ _)); refine blk_far ?_ NB202_209.out _; (with_reducible repeat (first | refine blk_drewN ?_ _ | refine blk_drew ?_ | refine blk_alloc ?_ _)); refine blk_far ?_ NB202_209.out _; (with_reducible repeat (first | refine blk_drewN ?_ _ | refine blk_drew ?_ | refine blk_alloc ?_ _)); refine blk_far ?_ NB202_209.out _; (with_reducible repeat (first | refine blk_drewN ?_ _ | refine blk_drew ?_ | refine blk_alloc ?_ _)); refine blk_far ?_ NB202_209.out _; (with_reducible repeat (first | refine blk_drewN ?_ _ | refine blk_drew ?_ | refine blk_alloc ?_ _)); exact BK202.out) NB202_195.out (by simp)); have n3_ := Aside0.mk (KeepBut.blk hk (g' := gb209) (o := .cells #[.int .i64 t203, .int .i64 t204, .int .i64 t205, .int .i64 t206] 25 (0, 0)) (by (with_reducible repeat (first | refine blk_drewN ?_ _ | refine blk_drew ?_ | refine blk_alloc ?_ _)); refine blk_put (cs := #[.int .i64 t203, .int .i64 t204, .int .i64 t205, .int .i64 0]) ?_ 3 _ rfl; (with_reducible repeat (first | refine blk_drewN ?_ _ | refine blk_drew ?_ | refine blk_alloc ?_ _)); refine blk_put (cs := #[.int .i64 t203, .int .i64 t204, .int .i64 0, .int .i64 0]) ?_ 2 _ rfl; (with_reducible repeat (first | refine blk_drewN ?_ _ | refine blk_drew ?_ | refine blk_alloc ?_ _)); refine blk_put (cs := #[.int .i64 t203, .int .i64 0, .int .i64 0, .int .i64 0]) ?_ 1 _ rfl; (with_reducible repeat (first | refine blk_drewN ?_ _ | refine blk_drew ?_ | refine blk_alloc ?_ _)); refine blk_put (cs := #[.int .i64 0, .int .i64 0, .int .i64 0, .int .i64 0]) ?_ 0 _ rfl; (with_reducible repeat (first | refine blk_drewN ?_ _ | refine blk_drew ?_ | refine blk_alloc ?_ _)); exact BK209.out) NB209_195.out (by simp)); have n4_ := Aside0.mk (hb); have n5_ := Aside0.mk (hi); clear BK190 BK191 BK202 BK209 HB HI195; have BK190 := n0_; have BK191 := n1_; have BK202 := n2_; have BK209 := n3_; have HB := n4_; have HI195 := n5_; clear n0_ n1_ n2_ n3_ n4_ n5_; (try clear hb); have hcz27_0 : w26.cell? ⟨gb202, 0, none⟩ = some (.int .i64 t196) := (blk_cell BK202.out 0).trans rfl; have hcz27_1 : w26.cell? ⟨gb202, 1, none⟩ = some (.int .i64 t197) := (blk_cell BK202.out 1).trans rfl; have hcz27_2 : w26.cell? ⟨gb202, 2, none⟩ = some (.int .i64 t198) := (blk_cell BK202.out 2).trans rfl; have hcz27_3 : w26.cell? ⟨gb202, 3, none⟩ = some (.int .i64 t199) := (blk_cell BK202.out 3).trans rfl; have hfz27_0 := blk_frozen BK202.out 0; have hfz27_1 := blk_frozen BK202.out 1; have hfz27_2 := blk_frozen BK202.out 2; have hfz27_3 := blk_frozen BK202.out 3; have hcz28_0 : w26.cell? ⟨gb209, 0, none⟩ = some (.int .i64 t203) := (blk_cell BK209.out 0).trans rfl; have hcz28_1 : w26.cell? ⟨gb209, 1, none⟩ = some (.int .i64 t204) := (blk_cell BK209.out 1).trans rfl; have hcz28_2 : w26.cell? ⟨gb209, 2, none⟩ = some (.int .i64 t205) := (blk_cell BK209.out 2).trans rfl; have hcz28_3 : w26.cell? ⟨gb209, 3, none⟩ = some (.int .i64 t206) := (blk_cell BK209.out 3).trans rfl; have hfz28_0 := blk_frozen BK209.out 0; have hfz28_1 := blk_frozen BK209.out 1; have hfz28_2 := blk_frozen BK209.out 2; have hfz28_3 := blk_frozen BK209.out 3))
    have n0_ : Aside0 (((((w26.setCell ⟨gb209, 0, none⟩ (.int .i64 t196)).setCell ⟨gb209, 1, none⟩ (.int .i64 t197)).setCell ⟨gb209, 2, none⟩ (.int .i64 t198)).setCell ⟨gb209, 3, none⟩ (.int .i64 t199)).heap[gb190]? = some (.cells #[.int .i64 0, .int .i64 0, .int .i64 0, .int .i64 0] 25 (0, 0))) := ⟨by (with_reducible repeat (first | refine blk_drewN ?_ _ | refine blk_drew ?_ | refine blk_alloc ?_ _)); refine blk_far ?_ NB190_209.out _; (with_reducible repeat (first | refine blk_drewN ?_ _ | refine blk_drew ?_ | refine blk_alloc ?_ _)); refine blk_far ?_ NB190_209.out _; (with_reducible repeat (first | refine blk_drewN ?_ _ | refine blk_drew ?_ | refine blk_alloc ?_ _)); refine blk_far ?_ NB190_209.out _; (with_reducible repeat (first | refine blk_drewN ?_ _ | refine blk_drew ?_ | refine blk_alloc ?_ _)); refine blk_far ?_ NB190_209.out _; (with_reducible repeat (first | refine blk_drewN ?_ _ | refine blk_drew ?_ | refine blk_alloc ?_ _)); exact BK190.out⟩
    have n1_ : Aside0 (((((w26.setCell ⟨gb209, 0, none⟩ (.int .i64 t196)).setCell ⟨gb209, 1, none⟩ (.int .i64 t197)).setCell ⟨gb209, 2, none⟩ (.int .i64 t198)).setCell ⟨gb209, 3, none⟩ (.int .i64 t199)).heap[gb191]? = some (.cells #[.int .i64 0, .int .i64 0, .int .i64 0, .int .i64 0] 25 (0, 0))) := ⟨by (with_reducible repeat (first | refine blk_drewN ?_ _ | refine blk_drew ?_ | refine blk_alloc ?_ _)); refine blk_far ?_ NB191_209.out _; (with_reducible repeat (first | refine blk_drewN ?_ _ | refine blk_drew ?_ | refine blk_alloc ?_ _)); refine blk_far ?_ NB191_209.out _; (with_reducible repeat (first | refine blk_drewN ?_ _ | refine blk_drew ?_ | refine blk_alloc ?_ _)); refine blk_far ?_ NB191_209.out _; (with_reducible repeat (first | refine blk_drewN ?_ _ | refine blk_drew ?_ | refine blk_alloc ?_ _)); refine blk_far ?_ NB191_209.out _; (with_reducible repeat (first | refine blk_drewN ?_ _ | refine blk_drew ?_ | refine blk_alloc ?_ _)); exact BK191.out⟩
    have n2_ : Aside0 (((((w26.setCell ⟨gb209, 0, none⟩ (.int .i64 t196)).setCell ⟨gb209, 1, none⟩ (.int .i64 t197)).setCell ⟨gb209, 2, none⟩ (.int .i64 t198)).setCell ⟨gb209, 3, none⟩ (.int .i64 t199)).heap[gb202]? = some (.cells #[.int .i64 t196, .int .i64 t197, .int .i64 t198, .int .i64 t199] 25 (0, 0))) := ⟨by (with_reducible repeat (first | refine blk_drewN ?_ _ | refine blk_drew ?_ | refine blk_alloc ?_ _)); refine blk_far ?_ NB202_209.out _; (with_reducible repeat (first | refine blk_drewN ?_ _ | refine blk_drew ?_ | refine blk_alloc ?_ _)); refine blk_far ?_ NB202_209.out _; (with_reducible repeat (first | refine blk_drewN ?_ _ | refine blk_drew ?_ | refine blk_alloc ?_ _)); refine blk_far ?_ NB202_209.out _; (with_reducible repeat (first | refine blk_drewN ?_ _ | refine blk_drew ?_ | refine blk_alloc ?_ _)); refine blk_far ?_ NB202_209.out _; (with_reducible repeat (first | refine blk_drewN ?_ _ | refine blk_drew ?_ | refine blk_alloc ?_ _)); exact BK202.out⟩
    have n3_ : Aside0 (((((w26.setCell ⟨gb209, 0, none⟩ (.int .i64 t196)).setCell ⟨gb209, 1, none⟩ (.int .i64 t197)).setCell ⟨gb209, 2, none⟩ (.int .i64 t198)).setCell ⟨gb209, 3, none⟩ (.int .i64 t199)).heap[gb209]? = some (.cells #[.int .i64 t196, .int .i64 t197, .int .i64 t198, .int .i64 t199] 25 (0, 0))) := ⟨by (with_reducible repeat (first | refine blk_drewN ?_ _ | refine blk_drew ?_ | refine blk_alloc ?_ _)); refine blk_put (cs := #[.int .i64 t196, .int .i64 t197, .int .i64 t198, .int .i64 t206]) ?_ 3 _ rfl; (with_reducible repeat (first | refine blk_drewN ?_ _ | refine blk_drew ?_ | refine blk_alloc ?_ _)); refine blk_put (cs := #[.int .i64 t196, .int .i64 t197, .int .i64 t205, .int .i64 t206]) ?_ 2 _ rfl; (with_reducible repeat (first | refine blk_drewN ?_ _ | refine blk_drew ?_ | refine blk_alloc ?_ _)); refine blk_put (cs := #[.int .i64 t196, .int .i64 t204, .int .i64 t205, .int .i64 t206]) ?_ 1 _ rfl; (with_reducible repeat (first | refine blk_drewN ?_ _ | refine blk_drew ?_ | refine blk_alloc ?_ _)); refine blk_put (cs := #[.int .i64 t203, .int .i64 t204, .int .i64 t205, .int .i64 t206]) ?_ 0 _ rfl; (with_reducible repeat (first | refine blk_drewN ?_ _ | refine blk_drew ?_ | refine blk_alloc ?_ _)); exact BK209.out⟩
    have n4_ : Aside0 (IsS90 w ((((w26.setCell ⟨gb209, 0, none⟩ (.int .i64 t196)).setCell ⟨gb209, 1, none⟩ (.int .i64 t197)).setCell ⟨gb209, 2, none⟩ (.int .i64 t198)).setCell ⟨gb209, 3, none⟩ (.int .i64 t199)) g195 t192 t211 t212) := ⟨by repeat (first | (with_reducible first | exact HI195.out | apply IsS90.alloc | apply IsS90.drewN | apply IsS90.drew | apply IsS90.set_1 | apply IsS90.set_2 | refine IsS90.far ?_ NB195_190.out _ | refine IsS90.far ?_ NB195_191.out _ | refine IsS90.far ?_ NB195_202.out _ | refine IsS90.far ?_ NB195_209.out _) | exact HI195.out)⟩
    have n5_ : Aside0 (Below w.heap.size w ((((w26.setCell ⟨gb209, 0, none⟩ (.int .i64 t196)).setCell ⟨gb209, 1, none⟩ (.int .i64 t197)).setCell ⟨gb209, 2, none⟩ (.int .i64 t198)).setCell ⟨gb209, 3, none⟩ (.int .i64 t199))) := ⟨by repeat (first | (with_reducible first | exact HB.out | apply below_alloc | apply pw_below_drewN | apply below_drew1 | refine below_set ?_ (IsS90.ge HI195.out) | refine below_set ?_ GE190.out | refine below_set ?_ GE191.out | refine below_set ?_ GE202.out | refine below_set ?_ GE209.out) | exact HB.out)⟩
    (try clear BK190)
    (try clear BK191)
    (try clear BK202)
    (try clear BK209)
    (try clear HI195)
    (try clear HB)
    generalize ((((w26.setCell ⟨gb209, 0, none⟩ (.int .i64 t196)).setCell ⟨gb209, 1, none⟩ (.int .i64 t197)).setCell ⟨gb209, 2, none⟩ (.int .i64 t198)).setCell ⟨gb209, 3, none⟩ (.int .i64 t199)) = w29 at n0_ n1_ n2_ n3_ n4_ n5_ ⊢
    have BK190 := n0_
    have BK191 := n1_
    have BK202 := n2_
    have BK209 := n3_
    have HI195 := n4_
    have HB := n5_
    clear n0_ n1_ n2_ n3_ n4_ n5_
    have n0_ := Aside0.mk (blk_drew BK190.out)
    have n1_ := Aside0.mk (blk_drew BK191.out)
    have n2_ := Aside0.mk (blk_drew BK202.out)
    have n3_ := Aside0.mk (blk_drew BK209.out)
    have n4_ := Aside0.mk (IsS90.drew HI195.out)
    have n5_ := Aside0.mk (below_drew1 HB.out)
    clear BK190 BK191 BK202 BK209 HI195 HB
    have BK190 := n0_
    have BK191 := n1_
    have BK202 := n2_
    have BK209 := n3_
    have HI195 := n4_
    have HB := n5_
    clear n0_ n1_ n2_ n3_ n4_ n5_
    refine start_ (n := 7) (S := fun w' => w'.cell? ⟨gb202, 0, none⟩ = some (.int .i64 t196) ∧ w'.cell? ⟨gb202, 1, none⟩ = some (.int .i64 t197) ∧ w'.cell? ⟨gb202, 2, none⟩ = some (.int .i64 t198) ∧ w'.cell? ⟨gb202, 3, none⟩ = some (.int .i64 t199)) (ds := []) #[false, false, false, false, false, false, false] (by kernel_rfl) rfl rfl (c4e BK202) (fun hHeld => ?_)
    generalize w29.drew = w30 at BK190 BK191 BK202 BK209 HI195 HB hHeld ⊢
    refine pure_ (i := 0) (N := some 16) (v := ?_) (a' := ?_) #[true, false, false, false, false, false, false] rfl rfl (by kernel_rfl) (fun _ _ _ h => h) (Or.inl ⟨by rfl, ?_⟩) ?_ ?_
    rotate_left
    ·intro w'
     go_simp
     with_reducible rfl
    rotate_left
    ·simp only [Act.put, List.setIfInBounds_toArray, List.set_cons_zero, List.set_cons_succ, i64_w, i32_w]
     rfl
    refine pure_ (i := 2) (N := some 18) (v := ?_) (a' := ?_) #[true, false, true, false, false, false, false] rfl rfl (by kernel_rfl) (fun _ _ _ h => h) (Or.inl ⟨by rfl, ?_⟩) ?_ ?_
    rotate_left
    ·intro w'
     go_simp
     with_reducible rfl
    rotate_left
    ·simp only [Act.put, List.setIfInBounds_toArray, List.set_cons_zero, List.set_cons_succ, i64_w, i32_w]
     rfl
    refine take_ (i := 1) (N := some 17) (v := ?_) (a' := ?_) #[true, true, true, false, false, false, false] rfl rfl (by kernel_rfl) (fun _ _ _ h => h) (Or.inl ⟨by rfl, ?_⟩) hHeld ?_ ?_
    rotate_left
    ·rintro w' ⟨s0, s1, s2, s3⟩
     go_simp
     with_reducible rfl
    rotate_left
    ·simp only [Act.put, List.setIfInBounds_toArray, List.set_cons_zero, List.set_cons_succ, i64_w, i32_w]
     rfl
    refine one_ (i := 3) (N := some 19) #[true, true, true, true, false, false, false] rfl rfl (by kernel_rfl) (by decide) (fun K hK => ?_)
    refine goesR Try.func86 (by kernel_rfl) rfl #[.pointer (some ⟨g195, 0, none⟩), .int .i64 64] (by rfl) rfl rfl ?_
    with_reducible refine (spec_l1Below.calls g195 t192 t211 t212 64 t213 t214 t215 w _ ?side1 ?side2 A7.out).mono ?_
    (case side1 => repeat (first | (with_reducible first | exact HI195.out | apply IsS90.alloc | apply IsS90.drewN | apply IsS90.drew | apply IsS90.set_1 | apply IsS90.set_2 | refine IsS90.far ?_ NB195_190.out _ | refine IsS90.far ?_ NB195_191.out _ | refine IsS90.far ?_ NB195_202.out _ | refine IsS90.far ?_ NB195_209.out _) | exact HI195.out))
    (case side2 => repeat (first | (with_reducible first | exact HB.out | apply below_alloc | apply pw_below_drewN | apply below_drew1 | refine below_set ?_ (IsS90.ge HI195.out) | refine below_set ?_ GE190.out | refine below_set ?_ GE191.out | refine below_set ?_ GE202.out | refine below_set ?_ GE209.out) | exact HB.out))
    rintro e w31 ⟨rfl, hi, hb, hk⟩
    refine ⟨_, rfl, ?_⟩
    have n0_ := Aside0.mk (KeepBut.blk hk (g' := gb190) (o := .cells #[.int .i64 0, .int .i64 0, .int .i64 0, .int .i64 0] 25 (0, 0)) (nb BK190) NB190_195.out (by simp))
    have n1_ := Aside0.mk (KeepBut.blk hk (g' := gb191) (o := .cells #[.int .i64 0, .int .i64 0, .int .i64 0, .int .i64 0] 25 (0, 0)) (nb BK191) NB191_195.out (by simp))
    have n2_ := Aside0.mk (KeepBut.blk hk (g' := gb202) (o := .cells #[.int .i64 t196, .int .i64 t197, .int .i64 t198, .int .i64 t199] 25 (0, 0)) (nb BK202) NB202_195.out (by simp))
    have n3_ := Aside0.mk (KeepBut.blk hk (g' := gb209) (o := .cells #[.int .i64 t196, .int .i64 t197, .int .i64 t198, .int .i64 t199] 25 (0, 0)) (nb BK209) NB209_195.out (by simp))
    have n4_ := Aside0.mk (hb)
    have n5_ := Aside0.mk (hi)
    clear BK190 BK191 BK202 BK209 HB HI195
    have BK190 := n0_
    have BK191 := n1_
    have BK202 := n2_
    have BK209 := n3_
    have HB := n4_
    have HI195 := n5_
    clear n0_ n1_ n2_ n3_ n4_ n5_
    (try clear hb)
    refine hK.out _ _ (c4e BK202) (fun hHeld => ?_)
    clear hK K
    refine norm_ (a' := ?_) ?_ ?_
    rotate_left
    ·show Act.put _ (some 19) _ = _
     simp only [Act.put, List.setIfInBounds_toArray, List.set_cons_zero, List.set_cons_succ, i64_w, i32_w]
     rfl
    refine pure_ (i := 4) (N := some 20) (v := ?_) (a' := ?_) #[true, true, true, true, true, false, false] rfl rfl (by kernel_rfl) (fun _ _ _ h => h) (Or.inl ⟨by rfl, ?_⟩) ?_ ?_
    rotate_left
    ·intro w'
     go_simp
     with_reducible rfl
    rotate_left
    ·simp only [Act.put, List.setIfInBounds_toArray, List.set_cons_zero, List.set_cons_succ, i64_w, i32_w]
     rfl
    refine pure_ (i := 5) (N := some 21) (v := ?_) (a' := ?_) #[true, true, true, true, true, true, false] rfl rfl (by kernel_rfl) (fun _ _ _ h => h) (Or.inl ⟨by rfl, ?_⟩) ?_ ?_
    rotate_left
    ·intro w'
     go_simp
     with_reducible rfl
    rotate_left
    ·simp only [Act.put, List.setIfInBounds_toArray, List.set_cons_zero, List.set_cons_succ, i64_w, i32_w]
     rfl
    refine one_ (i := 6) (N := none) #[true, true, true, true, true, true, true] rfl rfl (by kernel_rfl) (by decide) (fun K hK => ?_)
    have hs32 : w31.cell? ⟨gb209, 2, none⟩ = some (.int .i64 t198) := (blk_cell BK209.out 2).trans rfl
    have hfs32 := blk_frozen BK209.out 2
    have hns32_0 := NB190_209.out
    have hns32_1 := NB191_209.out
    have hns32_2 := NB202_209.out
    have hms32_0 := NB209_190.out
    have hms32_1 := NB209_191.out
    have hms32_2 := NB209_202.out
    refine skip_ (w1 := ?_) (by rfl) rfl ?_ ?_
    rotate_left
    ·go_simp
     rfl
    refine hK.out _ _ ⟨(g1 NB202_209.out hHeld.1), (g1 NB202_209.out hHeld.2.1), (g1 NB202_209.out hHeld.2.2.1), (g1 NB202_209.out hHeld.2.2.2)⟩ (fun hHeld => ?_)
    clear hK K
    refine done_ (by kernel_rfl) ?_
    have hcz33_0 : w31.cell? ⟨gb202, 0, none⟩ = some (.int .i64 t196) := (blk_cell BK202.out 0).trans rfl
    have hcz33_1 : w31.cell? ⟨gb202, 1, none⟩ = some (.int .i64 t197) := (blk_cell BK202.out 1).trans rfl
    have hcz33_2 : w31.cell? ⟨gb202, 2, none⟩ = some (.int .i64 t198) := (blk_cell BK202.out 2).trans rfl
    have hcz33_3 : w31.cell? ⟨gb202, 3, none⟩ = some (.int .i64 t199) := (blk_cell BK202.out 3).trans rfl
    have hfz33_0 := blk_frozen BK202.out 0
    have hfz33_1 := blk_frozen BK202.out 1
    have hfz33_2 := blk_frozen BK202.out 2
    have hfz33_3 := blk_frozen BK202.out 3
    have hcz34_0 : w31.cell? ⟨gb209, 0, none⟩ = some (.int .i64 t196) := (blk_cell BK209.out 0).trans rfl
    have hcz34_1 : w31.cell? ⟨gb209, 1, none⟩ = some (.int .i64 t197) := (blk_cell BK209.out 1).trans rfl
    have hcz34_2 : w31.cell? ⟨gb209, 2, none⟩ = some (.int .i64 t198) := (blk_cell BK209.out 2).trans rfl
    have hcz34_3 : w31.cell? ⟨gb209, 3, none⟩ = some (.int .i64 t199) := (blk_cell BK209.out 3).trans rfl
    have hfz34_0 := blk_frozen BK209.out 0
    have hfz34_1 := blk_frozen BK209.out 1
    have hfz34_2 := blk_frozen BK209.out 2
    have hfz34_3 := blk_frozen BK209.out 3
    try go_wp2
    have n0_ : Aside0 (((w31.setCell ⟨gb209, 2, none⟩ (.int .i64 (Go.bits .and .i64 t198 t213))).setCell ⟨gb209, 0, none⟩ (.int .i64 (wrap64 (t196 + 1)))).heap[gb190]? = some (.cells #[.int .i64 0, .int .i64 0, .int .i64 0, .int .i64 0] 25 (0, 0))) := ⟨by (with_reducible repeat (first | refine blk_drewN ?_ _ | refine blk_drew ?_ | refine blk_alloc ?_ _)); refine blk_far ?_ NB190_209.out _; (with_reducible repeat (first | refine blk_drewN ?_ _ | refine blk_drew ?_ | refine blk_alloc ?_ _)); refine blk_far ?_ NB190_209.out _; (with_reducible repeat (first | refine blk_drewN ?_ _ | refine blk_drew ?_ | refine blk_alloc ?_ _)); exact BK190.out⟩
    have n1_ : Aside0 (((w31.setCell ⟨gb209, 2, none⟩ (.int .i64 (Go.bits .and .i64 t198 t213))).setCell ⟨gb209, 0, none⟩ (.int .i64 (wrap64 (t196 + 1)))).heap[gb191]? = some (.cells #[.int .i64 0, .int .i64 0, .int .i64 0, .int .i64 0] 25 (0, 0))) := ⟨by (with_reducible repeat (first | refine blk_drewN ?_ _ | refine blk_drew ?_ | refine blk_alloc ?_ _)); refine blk_far ?_ NB191_209.out _; (with_reducible repeat (first | refine blk_drewN ?_ _ | refine blk_drew ?_ | refine blk_alloc ?_ _)); refine blk_far ?_ NB191_209.out _; (with_reducible repeat (first | refine blk_drewN ?_ _ | refine blk_drew ?_ | refine blk_alloc ?_ _)); exact BK191.out⟩
    have n2_ : Aside0 (((w31.setCell ⟨gb209, 2, none⟩ (.int .i64 (Go.bits .and .i64 t198 t213))).setCell ⟨gb209, 0, none⟩ (.int .i64 (wrap64 (t196 + 1)))).heap[gb202]? = some (.cells #[.int .i64 t196, .int .i64 t197, .int .i64 t198, .int .i64 t199] 25 (0, 0))) := ⟨by (with_reducible repeat (first | refine blk_drewN ?_ _ | refine blk_drew ?_ | refine blk_alloc ?_ _)); refine blk_far ?_ NB202_209.out _; (with_reducible repeat (first | refine blk_drewN ?_ _ | refine blk_drew ?_ | refine blk_alloc ?_ _)); refine blk_far ?_ NB202_209.out _; (with_reducible repeat (first | refine blk_drewN ?_ _ | refine blk_drew ?_ | refine blk_alloc ?_ _)); exact BK202.out⟩
    have n3_ : Aside0 (((w31.setCell ⟨gb209, 2, none⟩ (.int .i64 (Go.bits .and .i64 t198 t213))).setCell ⟨gb209, 0, none⟩ (.int .i64 (wrap64 (t196 + 1)))).heap[gb209]? = some (.cells #[.int .i64 (wrap64 (t196 + 1)), .int .i64 t197, .int .i64 (Go.bits .and .i64 t198 t213), .int .i64 t199] 25 (0, 0))) := ⟨by (with_reducible repeat (first | refine blk_drewN ?_ _ | refine blk_drew ?_ | refine blk_alloc ?_ _)); refine blk_put (cs := #[.int .i64 t196, .int .i64 t197, .int .i64 (Go.bits .and .i64 t198 t213), .int .i64 t199]) ?_ 0 _ rfl; (with_reducible repeat (first | refine blk_drewN ?_ _ | refine blk_drew ?_ | refine blk_alloc ?_ _)); refine blk_put (cs := #[.int .i64 t196, .int .i64 t197, .int .i64 t198, .int .i64 t199]) ?_ 2 _ rfl; (with_reducible repeat (first | refine blk_drewN ?_ _ | refine blk_drew ?_ | refine blk_alloc ?_ _)); exact BK209.out⟩
    have n4_ : Aside0 (IsS90 w ((w31.setCell ⟨gb209, 2, none⟩ (.int .i64 (Go.bits .and .i64 t198 t213))).setCell ⟨gb209, 0, none⟩ (.int .i64 (wrap64 (t196 + 1)))) g195 t192 t214 t215) := ⟨by repeat (first | (with_reducible first | exact HI195.out | apply IsS90.alloc | apply IsS90.drewN | apply IsS90.drew | apply IsS90.set_1 | apply IsS90.set_2 | refine IsS90.far ?_ NB195_190.out _ | refine IsS90.far ?_ NB195_191.out _ | refine IsS90.far ?_ NB195_202.out _ | refine IsS90.far ?_ NB195_209.out _) | exact HI195.out)⟩
    have n5_ : Aside0 (Below w.heap.size w ((w31.setCell ⟨gb209, 2, none⟩ (.int .i64 (Go.bits .and .i64 t198 t213))).setCell ⟨gb209, 0, none⟩ (.int .i64 (wrap64 (t196 + 1))))) := ⟨by repeat (first | (with_reducible first | exact HB.out | apply below_alloc | apply pw_below_drewN | apply below_drew1 | refine below_set ?_ (IsS90.ge HI195.out) | refine below_set ?_ GE190.out | refine below_set ?_ GE191.out | refine below_set ?_ GE202.out | refine below_set ?_ GE209.out) | exact HB.out)⟩
    (try clear BK190)
    (try clear BK191)
    (try clear BK202)
    (try clear BK209)
    (try clear HI195)
    (try clear HB)
    generalize ((w31.setCell ⟨gb209, 2, none⟩ (.int .i64 (Go.bits .and .i64 t198 t213))).setCell ⟨gb209, 0, none⟩ (.int .i64 (wrap64 (t196 + 1)))) = w35 at n0_ n1_ n2_ n3_ n4_ n5_ ⊢
    have BK190 := n0_
    have BK191 := n1_
    have BK202 := n2_
    have BK209 := n3_
    have HI195 := n4_
    have HB := n5_
    clear n0_ n1_ n2_ n3_ n4_ n5_
    have n0_ := Aside0.mk (blk_drew BK190.out)
    have n1_ := Aside0.mk (blk_drew BK191.out)
    have n2_ := Aside0.mk (blk_drew BK202.out)
    have n3_ := Aside0.mk (blk_drew BK209.out)
    have n4_ := Aside0.mk (IsS90.drew HI195.out)
    have n5_ := Aside0.mk (below_drew1 HB.out)
    clear BK190 BK191 BK202 BK209 HI195 HB
    have BK190 := n0_
    have BK191 := n1_
    have BK202 := n2_
    have BK209 := n3_
    have HI195 := n4_
    have HB := n5_
    clear n0_ n1_ n2_ n3_ n4_ n5_
    refine start_ (n := 4) (S := fun w' => w'.cell? ⟨gb202, 0, none⟩ = some (.int .i64 t196) ∧ w'.cell? ⟨gb202, 1, none⟩ = some (.int .i64 t197) ∧ w'.cell? ⟨gb202, 2, none⟩ = some (.int .i64 t198) ∧ w'.cell? ⟨gb202, 3, none⟩ = some (.int .i64 t199) ∧ w'.cell? ⟨gb209, 0, none⟩ = some (.int .i64 (wrap64 (t196 + 1))) ∧ w'.cell? ⟨gb209, 1, none⟩ = some (.int .i64 t197) ∧ w'.cell? ⟨gb209, 2, none⟩ = some (.int .i64 (Go.bits .and .i64 t198 t213)) ∧ w'.cell? ⟨gb209, 3, none⟩ = some (.int .i64 t199)) (ds := []) #[false, false, false, false] (by kernel_rfl) rfl rfl (c4 BK202 (c4e BK209)) (fun hHeld => ?_)
    generalize w35.drew = w36 at BK190 BK191 BK202 BK209 HI195 HB hHeld ⊢
    refine take_ (i := 0) (N := some 37) (v := ?_) (a' := ?_) #[true, false, false, false] rfl rfl (by kernel_rfl) (fun _ _ _ h => h) (Or.inl ⟨by rfl, ?_⟩) hHeld ?_ ?_
    rotate_left
    ·rintro w' ⟨s0, s1, s2, s3, s4, s5, s6, s7⟩
     go_simp
     with_reducible rfl
    rotate_left
    ·simp only [Act.put, List.setIfInBounds_toArray, List.set_cons_zero, List.set_cons_succ, i64_w, i32_w]
     rfl
    refine take_ (i := 1) (N := some 38) (v := ?_) (a' := ?_) #[true, true, false, false] rfl rfl (by kernel_rfl) (fun _ _ _ h => h) (Or.inl ⟨by rfl, ?_⟩) hHeld ?_ ?_
    rotate_left
    ·rintro w' ⟨s0, s1, s2, s3, s4, s5, s6, s7⟩
     go_simp
     with_reducible rfl
    rotate_left
    ·simp only [Act.put, List.setIfInBounds_toArray, List.set_cons_zero, List.set_cons_succ, i64_w, i32_w]
     rfl
    refine one_ (i := 2) (N := none) #[true, true, true, false] rfl rfl (by kernel_rfl) (by decide) (fun K hK => ?_)
    have hs37 : w36.cell? ⟨gb190, 0, none⟩ = some (.int .i64 0) := (blk_cell BK190.out 0).trans rfl
    have hfs37 := blk_frozen BK190.out 0
    have hns37_1 := NB191_190.out
    have hns37_2 := NB202_190.out
    have hns37_3 := NB209_190.out
    have hms37_1 := NB190_191.out
    have hms37_2 := NB190_202.out
    have hms37_3 := NB190_209.out
    have hs38 : w36.cell? ⟨gb190, 1, none⟩ = some (.int .i64 0) := (blk_cell BK190.out 1).trans rfl
    have hfs38 := blk_frozen BK190.out 1
    have hns38_1 := NB191_190.out
    have hns38_2 := NB202_190.out
    have hns38_3 := NB209_190.out
    have hms38_1 := NB190_191.out
    have hms38_2 := NB190_202.out
    have hms38_3 := NB190_209.out
    have hs39 : w36.cell? ⟨gb190, 2, none⟩ = some (.int .i64 0) := (blk_cell BK190.out 2).trans rfl
    have hfs39 := blk_frozen BK190.out 2
    have hns39_1 := NB191_190.out
    have hns39_2 := NB202_190.out
    have hns39_3 := NB209_190.out
    have hms39_1 := NB190_191.out
    have hms39_2 := NB190_202.out
    have hms39_3 := NB190_209.out
    have hs40 : w36.cell? ⟨gb190, 3, none⟩ = some (.int .i64 0) := (blk_cell BK190.out 3).trans rfl
    have hfs40 := blk_frozen BK190.out 3
    have hns40_1 := NB191_190.out
    have hns40_2 := NB202_190.out
    have hns40_3 := NB209_190.out
    have hms40_1 := NB190_191.out
    have hms40_2 := NB190_202.out
    have hms40_3 := NB190_209.out
    refine skip_ (w1 := ?_) (by rfl) rfl ?_ ?_
    rotate_left
    ·go_simp
     rfl
    refine hK.out _ _ ⟨(g4 NB202_190.out hHeld.1), (g4 NB202_190.out hHeld.2.1), (g4 NB202_190.out hHeld.2.2.1), (g4 NB202_190.out hHeld.2.2.2.1), (g4 NB209_190.out hHeld.2.2.2.2.1), (g4 NB209_190.out hHeld.2.2.2.2.2.1), (g4 NB209_190.out hHeld.2.2.2.2.2.2.1), (g4 NB209_190.out hHeld.2.2.2.2.2.2.2)⟩ (fun hHeld => ?_)
    clear hK K
    refine one_ (i := 3) (N := none) #[true, true, true, true] rfl rfl (by kernel_rfl) (by decide) (fun K hK => ?_)
    have hs41 : w36.cell? ⟨gb191, 0, none⟩ = some (.int .i64 0) := (blk_cell BK191.out 0).trans rfl
    have hfs41 := blk_frozen BK191.out 0
    have hns41_0 := NB190_191.out
    have hns41_2 := NB202_191.out
    have hns41_3 := NB209_191.out
    have hms41_0 := NB191_190.out
    have hms41_2 := NB191_202.out
    have hms41_3 := NB191_209.out
    have hs42 : w36.cell? ⟨gb191, 1, none⟩ = some (.int .i64 0) := (blk_cell BK191.out 1).trans rfl
    have hfs42 := blk_frozen BK191.out 1
    have hns42_0 := NB190_191.out
    have hns42_2 := NB202_191.out
    have hns42_3 := NB209_191.out
    have hms42_0 := NB191_190.out
    have hms42_2 := NB191_202.out
    have hms42_3 := NB191_209.out
    have hs43 : w36.cell? ⟨gb191, 2, none⟩ = some (.int .i64 0) := (blk_cell BK191.out 2).trans rfl
    have hfs43 := blk_frozen BK191.out 2
    have hns43_0 := NB190_191.out
    have hns43_2 := NB202_191.out
    have hns43_3 := NB209_191.out
    have hms43_0 := NB191_190.out
    have hms43_2 := NB191_202.out
    have hms43_3 := NB191_209.out
    have hs44 : w36.cell? ⟨gb191, 3, none⟩ = some (.int .i64 0) := (blk_cell BK191.out 3).trans rfl
    have hfs44 := blk_frozen BK191.out 3
    have hns44_0 := NB190_191.out
    have hns44_2 := NB202_191.out
    have hns44_3 := NB209_191.out
    have hms44_0 := NB191_190.out
    have hms44_2 := NB191_202.out
    have hms44_3 := NB191_209.out
    refine skip_ (w1 := ?_) (by rfl) rfl ?_ ?_
    rotate_left
    ·go_simp
     rfl
    refine hK.out _ _ ⟨(g4 NB202_191.out hHeld.1), (g4 NB202_191.out hHeld.2.1), (g4 NB202_191.out hHeld.2.2.1), (g4 NB202_191.out hHeld.2.2.2.1), (g4 NB209_191.out hHeld.2.2.2.2.1), (g4 NB209_191.out hHeld.2.2.2.2.2.1), (g4 NB209_191.out hHeld.2.2.2.2.2.2.1), (g4 NB209_191.out hHeld.2.2.2.2.2.2.2)⟩ (fun hHeld => ?_)
    clear hK K
    refine done_ (by kernel_rfl) ?_
    try go_wp2
    refine bodyPost_ret (results_cc rfl _ _ gb190 gb191 25 25 #[.int .i64 t196, .int .i64 t197, .int .i64 t198, .int .i64 t199] #[.int .i64 (wrap64 (t196 + 1)), .int .i64 t197, .int .i64 (Go.bits .and .i64 t198 t213), .int .i64 t199] (0, 0) (0, 0) _ _ rfl (by (with_reducible repeat (first | refine blk_drewN ?_ _ | refine blk_drew ?_ | refine blk_alloc ?_ _)); refine blk_far ?_ NB190_191.out _; (with_reducible repeat (first | refine blk_drewN ?_ _ | refine blk_drew ?_ | refine blk_alloc ?_ _)); refine blk_far ?_ NB190_191.out _; (with_reducible repeat (first | refine blk_drewN ?_ _ | refine blk_drew ?_ | refine blk_alloc ?_ _)); refine blk_far ?_ NB190_191.out _; (with_reducible repeat (first | refine blk_drewN ?_ _ | refine blk_drew ?_ | refine blk_alloc ?_ _)); refine blk_far ?_ NB190_191.out _; (with_reducible repeat (first | refine blk_drewN ?_ _ | refine blk_drew ?_ | refine blk_alloc ?_ _)); refine blk_put (cs := #[.int .i64 t196, .int .i64 t197, .int .i64 t198, .int .i64 0]) ?_ 3 _ rfl; (with_reducible repeat (first | refine blk_drewN ?_ _ | refine blk_drew ?_ | refine blk_alloc ?_ _)); refine blk_put (cs := #[.int .i64 t196, .int .i64 t197, .int .i64 0, .int .i64 0]) ?_ 2 _ rfl; (with_reducible repeat (first | refine blk_drewN ?_ _ | refine blk_drew ?_ | refine blk_alloc ?_ _)); refine blk_put (cs := #[.int .i64 t196, .int .i64 0, .int .i64 0, .int .i64 0]) ?_ 1 _ rfl; (with_reducible repeat (first | refine blk_drewN ?_ _ | refine blk_drew ?_ | refine blk_alloc ?_ _)); refine blk_put (cs := #[.int .i64 0, .int .i64 0, .int .i64 0, .int .i64 0]) ?_ 0 _ rfl; (with_reducible repeat (first | refine blk_drewN ?_ _ | refine blk_drew ?_ | refine blk_alloc ?_ _)); exact BK190.out) Try.underlying25 rfl (by kernel_rfl) rfl (by (with_reducible repeat (first | refine blk_drewN ?_ _ | refine blk_drew ?_ | refine blk_alloc ?_ _)); refine blk_put (cs := #[.int .i64 (wrap64 (t196 + 1)), .int .i64 t197, .int .i64 (Go.bits .and .i64 t198 t213), .int .i64 0]) ?_ 3 _ rfl; (with_reducible repeat (first | refine blk_drewN ?_ _ | refine blk_drew ?_ | refine blk_alloc ?_ _)); refine blk_put (cs := #[.int .i64 (wrap64 (t196 + 1)), .int .i64 t197, .int .i64 0, .int .i64 0]) ?_ 2 _ rfl; (with_reducible repeat (first | refine blk_drewN ?_ _ | refine blk_drew ?_ | refine blk_alloc ?_ _)); refine blk_put (cs := #[.int .i64 (wrap64 (t196 + 1)), .int .i64 0, .int .i64 0, .int .i64 0]) ?_ 1 _ rfl; (with_reducible repeat (first | refine blk_drewN ?_ _ | refine blk_drew ?_ | refine blk_alloc ?_ _)); refine blk_put (cs := #[.int .i64 0, .int .i64 0, .int .i64 0, .int .i64 0]) ?_ 0 _ rfl; (with_reducible repeat (first | refine blk_drewN ?_ _ | refine blk_drew ?_ | refine blk_alloc ?_ _)); refine blk_far ?_ NB191_190.out _; (with_reducible repeat (first | refine blk_drewN ?_ _ | refine blk_drew ?_ | refine blk_alloc ?_ _)); refine blk_far ?_ NB191_190.out _; (with_reducible repeat (first | refine blk_drewN ?_ _ | refine blk_drew ?_ | refine blk_alloc ?_ _)); refine blk_far ?_ NB191_190.out _; (with_reducible repeat (first | refine blk_drewN ?_ _ | refine blk_drew ?_ | refine blk_alloc ?_ _)); refine blk_far ?_ NB191_190.out _; (with_reducible repeat (first | refine blk_drewN ?_ _ | refine blk_drew ?_ | refine blk_alloc ?_ _)); exact BK191.out) Try.underlying25 rfl (by kernel_rfl)) rfl ?_
    exact ⟨by first | rfl | (simp [errW_none, errW_some] <;> rfl) | (simp [*, errW_none, errW_some] <;> rfl), by repeat (first | (with_reducible first | exact HB.out | apply below_alloc | apply pw_below_drewN | apply below_drew1 | refine below_set ?_ (IsS90.ge HI195.out) | refine below_set ?_ GE190.out | refine below_set ?_ GE191.out | refine below_set ?_ GE202.out | refine below_set ?_ GE209.out) | exact HB.out)⟩
   ·rw [if_neg c9] at H
    have c9b0 : decide (t197 ≤ 62) = false := decide_eq_false c9
    clear c9
    simp only [Option.some.injEq, Prod.mk.injEq] at H
    obtain ⟨rfl, rfl, rfl, rfl, rfl, rfl, rfl, rfl⟩ := H
    go_enter Try.func80, Try.ntmps80
    try go_wp2_with (first | ((with_reducible refine gate_dst (N := 2) rfl ?_); refine box_event ?hg (N := 2) ?hd (cs := #[.int .i64 0, .int .i64 0, .int .i64 0, .int .i64 0]) (t := 25) ?hr ?_; (case hd => rfl); (case hg => rfl); (case hr => first | (go_simp; done) | (go_simp; rfl)); intro gb190 hg w45 hbox hb; have n0_ := nbs HB hb; have n1_ := Aside0.mk (hbox); have n2_ := nge HB hg; have n3_ := nge HB hg; clear HB; have HB := n0_; have BK190 := n1_; have GW190 := n2_; have GE190 := n3_; clear n0_ n1_ n2_ n3_; clear hb hbox hg) | ((with_reducible refine gate_dst (N := 3) rfl ?_); refine box_event ?hg (N := 3) ?hd (cs := #[.int .i64 0, .int .i64 0, .int .i64 0, .int .i64 0]) (t := 25) ?hr ?_; (case hd => rfl); (case hg => rfl); (case hr => first | (go_simp; done) | (go_simp; rfl)); intro gb191 hg w46 hbox hb; have n0_ := nblk BK190 hb; have n1_ := nbs HB hb; have n2_ := Aside0.mk (hbox); have n3_ := nge HB hg; have n4_ := nge HB hg; have n5_ := nlt BK190 hg; have n6_ := ngt BK190 hg; clear BK190 HB; have BK190 := n0_; have HB := n1_; have BK191 := n2_; have GW191 := n3_; have GE191 := n4_; have NB190_191 := n5_; have NB191_190 := n6_; clear n0_ n1_ n2_ n3_ n4_ n5_ n6_; clear hb hbox hg) | ((with_reducible refine gate_callee (f := 71) rfl ?_); refine goesM (some 8) rfl rfl Try.func71 (by kernel_rfl) rfl #[.slice A0 l0.length c0] rfl ?_; (with_reducible refine (spec_l1New.calls k _ _ l0 t192 t193 t194 w _ ?side1 ?side2 ?side3 A2.out).mono ?_); (case side1 => repeat (first | (with_reducible first | exact HB.out | apply below_alloc | apply pw_below_drewN | apply below_drew1 | refine below_set ?_ GE190.out | refine below_set ?_ GE191.out) | exact HB.out)); (case side2 => exact HR0.out); (case side3 => exact HC0.out); rintro e w47 ⟨g195, rfl, hi, hb, hb2⟩; refine ⟨_, rfl, ?_⟩; have n0_ := Aside0.mk (blk_below (g := gb190) (o := .cells #[.int .i64 0, .int .i64 0, .int .i64 0, .int .i64 0] 25 (0, 0)) (nb BK190) hb2); have n1_ := Aside0.mk (blk_below (g := gb191) (o := .cells #[.int .i64 0, .int .i64 0, .int .i64 0, .int .i64 0] 25 (0, 0)) (nb BK191) hb2); have n2_ := Aside0.mk (hb); have n3_ := Aside0.mk (hi); have n4_ := Aside0.mk (IsS90.ne_blk hi (blk_below (g := gb190) (o := .cells #[.int .i64 0, .int .i64 0, .int .i64 0, .int .i64 0] 25 (0, 0)) (nb BK190) hb2) (by decide)); have n5_ := Aside0.mk (Ne.symm (IsS90.ne_blk hi (blk_below (g := gb190) (o := .cells #[.int .i64 0, .int .i64 0, .int .i64 0, .int .i64 0] 25 (0, 0)) (nb BK190) hb2) (by decide))); have n6_ := Aside0.mk (IsS90.ne_blk hi (blk_below (g := gb191) (o := .cells #[.int .i64 0, .int .i64 0, .int .i64 0, .int .i64 0] 25 (0, 0)) (nb BK191) hb2) (by decide)); have n7_ := Aside0.mk (Ne.symm (IsS90.ne_blk hi (blk_below (g := gb191) (o := .cells #[.int .i64 0, .int .i64 0, .int .i64 0, .int .i64 0] 25 (0, 0)) (nb BK191) hb2) (by decide))); clear BK190 BK191 HB; have BK190 := n0_; have BK191 := n1_; have HB := n2_; have HI195 := n3_; have NB195_190 := n4_; have NB190_195 := n5_; have NB195_191 := n6_; have NB191_195 := n7_; clear n0_ n1_ n2_ n3_ n4_ n5_ n6_ n7_; (try clear hb)) | ((with_reducible refine gate_callee (f := 83) rfl ?_); refine goesM (some 10) rfl rfl Try.func83 (by kernel_rfl) rfl #[.pointer (some ⟨g195, 0, none⟩)] rfl ?_; (with_reducible refine (spec_l2Draw.calls k g195 t192 t193 t194 t196 t197 t198 t199 t200 t201 w _ ?side1 ?side2 A3.out).mono ?_); (case side1 => repeat (first | (with_reducible first | exact HI195.out | apply IsS90.alloc | apply IsS90.drewN | apply IsS90.drew | apply IsS90.set_1 | apply IsS90.set_2 | refine IsS90.far ?_ NB195_190.out _ | refine IsS90.far ?_ NB195_191.out _) | exact HI195.out)); (case side2 => repeat (first | (with_reducible first | exact HB.out | apply below_alloc | apply pw_below_drewN | apply below_drew1 | refine below_set ?_ (IsS90.ge HI195.out) | refine below_set ?_ GE190.out | refine below_set ?_ GE191.out) | exact HB.out)); rintro e w48 ⟨rfl, hi, hb, hk⟩; refine ⟨_, rfl, ?_⟩; have n0_ := Aside0.mk (KeepBut.blk hk (g' := gb190) (o := .cells #[.int .i64 0, .int .i64 0, .int .i64 0, .int .i64 0] 25 (0, 0)) (nb BK190) NB190_195.out (by simp)); have n1_ := Aside0.mk (KeepBut.blk hk (g' := gb191) (o := .cells #[.int .i64 0, .int .i64 0, .int .i64 0, .int .i64 0] 25 (0, 0)) (nb BK191) NB191_195.out (by simp)); have n2_ := Aside0.mk (hb); have n3_ := Aside0.mk (hi); clear BK190 BK191 HB HI195; have BK190 := n0_; have BK191 := n1_; have HB := n2_; have HI195 := n3_; clear n0_ n1_ n2_ n3_; (try clear hb)) | ((with_reducible refine gate_dst (N := 5) rfl ?_); refine box_event ?hg (N := 5) ?hd (cs := #[.int .i64 0, .int .i64 0, .int .i64 0, .int .i64 0]) (t := 25) ?hr ?_; (case hd => rfl); (case hg => rfl); (case hr => first | (go_simp; done) | (go_simp; rfl)); intro gb202 hg w49 hbox hb; have n0_ := nblk BK190 hb; have n1_ := nblk BK191 hb; have n2_ := Aside0.mk (IsS90.below (by repeat (first | (with_reducible first | exact HI195.out | apply IsS90.alloc | apply IsS90.drewN | apply IsS90.drew | apply IsS90.set_1 | apply IsS90.set_2 | refine IsS90.far ?_ NB195_190.out _ | refine IsS90.far ?_ NB195_191.out _) | exact HI195.out)) hb); have n3_ := Aside0.mk (below_step (by repeat (first | (with_reducible first | exact HB.out | apply below_alloc | apply pw_below_drewN | apply below_drew1 | refine below_set ?_ (IsS90.ge HI195.out) | refine below_set ?_ GE190.out | refine below_set ?_ GE191.out) | exact HB.out)) hb); have n4_ := Aside0.mk (hbox); have n5_ := Aside0.mk ((by rw [hg]; exact (below_size (by repeat (first | (with_reducible first | exact HB.out | apply below_alloc | apply pw_below_drewN | apply below_drew1 | refine below_set ?_ (IsS90.ge HI195.out) | refine below_set ?_ GE190.out | refine below_set ?_ GE191.out) | exact HB.out))) : w.heap.size ≤ gb202)); have n6_ := Aside0.mk ((by rw [hg]; exact (below_size (by repeat (first | (with_reducible first | exact HB.out | apply below_alloc | apply pw_below_drewN | apply below_drew1 | refine below_set ?_ (IsS90.ge HI195.out) | refine below_set ?_ GE190.out | refine below_set ?_ GE191.out) | exact HB.out))) : w.heap.size ≤ gb202)); have n7_ := nlt BK190 hg; have n8_ := ngt BK190 hg; have n9_ := nlt BK191 hg; have n10_ := ngt BK191 hg; have n11_ := Aside0.mk ((by rw [hg]; exact Nat.ne_of_lt (IsS90.lt (show IsS90 w _ g195 t192 t200 t201 from by repeat (first | (with_reducible first | exact HI195.out | apply IsS90.alloc | apply IsS90.drewN | apply IsS90.drew | apply IsS90.set_1 | apply IsS90.set_2 | refine IsS90.far ?_ NB195_190.out _ | refine IsS90.far ?_ NB195_191.out _) | exact HI195.out))) : g195 ≠ gb202)); have n12_ := Aside0.mk ((by rw [hg]; exact Nat.ne_of_gt (IsS90.lt (show IsS90 w _ g195 t192 t200 t201 from by repeat (first | (with_reducible first | exact HI195.out | apply IsS90.alloc | apply IsS90.drewN | apply IsS90.drew | apply IsS90.set_1 | apply IsS90.set_2 | refine IsS90.far ?_ NB195_190.out _ | refine IsS90.far ?_ NB195_191.out _) | exact HI195.out))) : gb202 ≠ g195)); clear BK190 BK191 HI195 HB; have BK190 := n0_; have BK191 := n1_; have HI195 := n2_; have HB := n3_; have BK202 := n4_; have GW202 := n5_; have GE202 := n6_; have NB190_202 := n7_; have NB202_190 := n8_; have NB191_202 := n9_; have NB202_191 := n10_; have NB195_202 := n11_; have NB202_195 := n12_; clear n0_ n1_ n2_ n3_ n4_ n5_ n6_ n7_ n8_ n9_ n10_ n11_ n12_; clear hb hbox hg; have hnb50 := NB202_190.out; have hnc50 := NB190_202.out; have hnb51 := NB202_191.out; have hnc51 := NB191_202.out; have hnb52 := NB202_195.out; have hnc52 := NB195_202.out; have hcz53_0 : w49.cell? ⟨gb202, 0, none⟩ = some (.int .i64 0) := (blk_cell BK202.out 0).trans rfl; have hcz53_1 : w49.cell? ⟨gb202, 1, none⟩ = some (.int .i64 0) := (blk_cell BK202.out 1).trans rfl; have hcz53_2 : w49.cell? ⟨gb202, 2, none⟩ = some (.int .i64 0) := (blk_cell BK202.out 2).trans rfl; have hcz53_3 : w49.cell? ⟨gb202, 3, none⟩ = some (.int .i64 0) := (blk_cell BK202.out 3).trans rfl; have hfz53_0 := blk_frozen BK202.out 0; have hfz53_1 := blk_frozen BK202.out 1; have hfz53_2 := blk_frozen BK202.out 2; have hfz53_3 := blk_frozen BK202.out 3) | ((with_reducible refine gate_callee (f := 83) rfl ?_); refine goesM (some 12) rfl rfl Try.func83 (by kernel_rfl) rfl #[.pointer (some ⟨g195, 0, none⟩)] rfl ?_; (with_reducible refine (spec_l2Draw.calls k g195 t192 t200 t201 t203 t204 t205 t206 t207 t208 w _ ?side1 ?side2 A4.out).mono ?_); (case side1 => repeat (first | (with_reducible first | exact HI195.out | apply IsS90.alloc | apply IsS90.drewN | apply IsS90.drew | apply IsS90.set_1 | apply IsS90.set_2 | refine IsS90.far ?_ NB195_190.out _ | refine IsS90.far ?_ NB195_191.out _ | refine IsS90.far ?_ NB195_202.out _) | exact HI195.out)); (case side2 => repeat (first | (with_reducible first | exact HB.out | apply below_alloc | apply pw_below_drewN | apply below_drew1 | refine below_set ?_ (IsS90.ge HI195.out) | refine below_set ?_ GE190.out | refine below_set ?_ GE191.out | refine below_set ?_ GE202.out) | exact HB.out)); rintro e w54 ⟨rfl, hi, hb, hk⟩; refine ⟨_, rfl, ?_⟩; have n0_ := Aside0.mk (KeepBut.blk hk (g' := gb190) (o := .cells #[.int .i64 0, .int .i64 0, .int .i64 0, .int .i64 0] 25 (0, 0)) (by (with_reducible repeat (first | refine blk_drewN ?_ _ | refine blk_drew ?_ | refine blk_alloc ?_ _)); refine blk_far ?_ NB190_202.out _; (with_reducible repeat (first | refine blk_drewN ?_ _ | refine blk_drew ?_ | refine blk_alloc ?_ _)); refine blk_far ?_ NB190_202.out _; (with_reducible repeat (first | refine blk_drewN ?_ _ | refine blk_drew ?_ | refine blk_alloc ?_ _)); refine blk_far ?_ NB190_202.out _; (with_reducible repeat (first | refine blk_drewN ?_ _ | refine blk_drew ?_ | refine blk_alloc ?_ _)); refine blk_far ?_ NB190_202.out _; (with_reducible repeat (first | refine blk_drewN ?_ _ | refine blk_drew ?_ | refine blk_alloc ?_ _)); exact BK190.out) NB190_195.out (by simp)); have n1_ := Aside0.mk (KeepBut.blk hk (g' := gb191) (o := .cells #[.int .i64 0, .int .i64 0, .int .i64 0, .int .i64 0] 25 (0, 0)) (by (with_reducible repeat (first | refine blk_drewN ?_ _ | refine blk_drew ?_ | refine blk_alloc ?_ _)); refine blk_far ?_ NB191_202.out _; (with_reducible repeat (first | refine blk_drewN ?_ _ | refine blk_drew ?_ | refine blk_alloc ?_ _)); refine blk_far ?_ NB191_202.out _; (with_reducible repeat (first | refine blk_drewN ?_ _ | refine blk_drew ?_ | refine blk_alloc ?_ _)); refine blk_far ?_ NB191_202.out _; (with_reducible repeat (first | refine blk_drewN ?_ _ | refine blk_drew ?_ | refine blk_alloc ?_ _)); refine blk_far ?_ NB191_202.out _; (with_reducible repeat (first | refine blk_drewN ?_ _ | refine blk_drew ?_ | refine blk_alloc ?_ _)); exact BK191.out) NB191_195.out (by simp)); have n2_ := Aside0.mk (KeepBut.blk hk (g' := gb202) (o := .cells #[.int .i64 t196, .int .i64 t197, .int .i64 t198, .int .i64 t199] 25 (0, 0)) (by (with_reducible repeat (first | refine blk_drewN ?_ _ | refine blk_drew ?_ | refine blk_alloc ?_ _)); refine blk_put (cs := #[.int .i64 t196, .int .i64 t197, .int .i64 t198, .int .i64 0]) ?_ 3 _ rfl; (with_reducible repeat (first | refine blk_drewN ?_ _ | refine blk_drew ?_ | refine blk_alloc ?_ _)); refine blk_put (cs := #[.int .i64 t196, .int .i64 t197, .int .i64 0, .int .i64 0]) ?_ 2 _ rfl; (with_reducible repeat (first | refine blk_drewN ?_ _ | refine blk_drew ?_ | refine blk_alloc ?_ _)); refine blk_put (cs := #[.int .i64 t196, .int .i64 0, .int .i64 0, .int .i64 0]) ?_ 1 _ rfl; (with_reducible repeat (first | refine blk_drewN ?_ _ | refine blk_drew ?_ | refine blk_alloc ?_ _)); refine blk_put (cs := #[.int .i64 0, .int .i64 0, .int .i64 0, .int .i64 0]) ?_ 0 _ rfl; (with_reducible repeat (first | refine blk_drewN ?_ _ | refine blk_drew ?_ | refine blk_alloc ?_ _)); exact BK202.out) NB202_195.out (by simp)); have n3_ := Aside0.mk (hb); have n4_ := Aside0.mk (hi); clear BK190 BK191 BK202 HB HI195; have BK190 := n0_; have BK191 := n1_; have BK202 := n2_; have HB := n3_; have HI195 := n4_; clear n0_ n1_ n2_ n3_ n4_; (try clear hb)) | ((with_reducible refine gate_dst (N := 6) rfl ?_); refine box_event ?hg (N := 6) ?hd (cs := #[.int .i64 0, .int .i64 0, .int .i64 0, .int .i64 0]) (t := 25) ?hr ?_; (case hd => rfl); (case hg => rfl); (case hr => first | (go_simp; done) | (go_simp; rfl)); intro gb209 hg w55 hbox hb; have n0_ := nblk BK190 hb; have n1_ := nblk BK191 hb; have n2_ := Aside0.mk (IsS90.below (by repeat (first | (with_reducible first | exact HI195.out | apply IsS90.alloc | apply IsS90.drewN | apply IsS90.drew | apply IsS90.set_1 | apply IsS90.set_2 | refine IsS90.far ?_ NB195_190.out _ | refine IsS90.far ?_ NB195_191.out _ | refine IsS90.far ?_ NB195_202.out _) | exact HI195.out)) hb); have n3_ := nblk BK202 hb; have n4_ := Aside0.mk (below_step (by repeat (first | (with_reducible first | exact HB.out | apply below_alloc | apply pw_below_drewN | apply below_drew1 | refine below_set ?_ (IsS90.ge HI195.out) | refine below_set ?_ GE190.out | refine below_set ?_ GE191.out | refine below_set ?_ GE202.out) | exact HB.out)) hb); have n5_ := Aside0.mk (hbox); have n6_ := Aside0.mk ((by rw [hg]; exact (below_size (by repeat (first | (with_reducible first | exact HB.out | apply below_alloc | apply pw_below_drewN | apply below_drew1 | refine below_set ?_ (IsS90.ge HI195.out) | refine below_set ?_ GE190.out | refine below_set ?_ GE191.out | refine below_set ?_ GE202.out) | exact HB.out))) : w.heap.size ≤ gb209)); have n7_ := Aside0.mk ((by rw [hg]; exact (below_size (by repeat (first | (with_reducible first | exact HB.out | apply below_alloc | apply pw_below_drewN | apply below_drew1 | refine below_set ?_ (IsS90.ge HI195.out) | refine below_set ?_ GE190.out | refine below_set ?_ GE191.out | refine below_set ?_ GE202.out) | exact HB.out))) : w.heap.size ≤ gb209)); have n8_ := nlt BK190 hg; have n9_ := ngt BK190 hg; have n10_ := nlt BK191 hg; have n11_ := ngt BK191 hg; have n12_ := nlt BK202 hg; have n13_ := ngt BK202 hg; have n14_ := Aside0.mk ((by rw [hg]; exact Nat.ne_of_lt (IsS90.lt (show IsS90 w _ g195 t192 t207 t208 from by repeat (first | (with_reducible first | exact HI195.out | apply IsS90.alloc | apply IsS90.drewN | apply IsS90.drew | apply IsS90.set_1 | apply IsS90.set_2 | refine IsS90.far ?_ NB195_190.out _ | refine IsS90.far ?_ NB195_191.out _ | refine IsS90.far ?_ NB195_202.out _) | exact HI195.out))) : g195 ≠ gb209)); have n15_ := Aside0.mk ((by rw [hg]; exact Nat.ne_of_gt (IsS90.lt (show IsS90 w _ g195 t192 t207 t208 from by repeat (first | (with_reducible first | exact HI195.out | apply IsS90.alloc | apply IsS90.drewN | apply IsS90.drew | apply IsS90.set_1 | apply IsS90.set_2 | refine IsS90.far ?_ NB195_190.out _ | refine IsS90.far ?_ NB195_191.out _ | refine IsS90.far ?_ NB195_202.out _) | exact HI195.out))) : gb209 ≠ g195)); clear BK190 BK191 HI195 BK202 HB; have BK190 := n0_; have BK191 := n1_; have HI195 := n2_; have BK202 := n3_; have HB := n4_; have BK209 := n5_; have GW209 := n6_; have GE209 := n7_; have NB190_209 := n8_; have NB209_190 := n9_; have NB191_209 := n10_; have NB209_191 := n11_; have NB202_209 := n12_; have NB209_202 := n13_; have NB195_209 := n14_; have NB209_195 := n15_; clear n0_ n1_ n2_ n3_ n4_ n5_ n6_ n7_ n8_ n9_ n10_ n11_ n12_ n13_ n14_ n15_; clear hb hbox hg; have hnb56 := NB209_190.out; have hnc56 := NB190_209.out; have hnb57 := NB209_191.out; have hnc57 := NB191_209.out; have hnb58 := NB209_202.out; have hnc58 := NB202_209.out; have hnb59 := NB209_195.out; have hnc59 := NB195_209.out; have hcz60_0 : w55.cell? ⟨gb209, 0, none⟩ = some (.int .i64 0) := (blk_cell BK209.out 0).trans rfl; have hcz60_1 : w55.cell? ⟨gb209, 1, none⟩ = some (.int .i64 0) := (blk_cell BK209.out 1).trans rfl; have hcz60_2 : w55.cell? ⟨gb209, 2, none⟩ = some (.int .i64 0) := (blk_cell BK209.out 2).trans rfl; have hcz60_3 : w55.cell? ⟨gb209, 3, none⟩ = some (.int .i64 0) := (blk_cell BK209.out 3).trans rfl; have hfz60_0 := blk_frozen BK209.out 0; have hfz60_1 := blk_frozen BK209.out 1; have hfz60_2 := blk_frozen BK209.out 2; have hfz60_3 := blk_frozen BK209.out 3) | ((with_reducible refine gate_callee (f := 75) rfl ?_); refine goesM (some 14) rfl rfl Try.func75 (by kernel_rfl) rfl #[.pointer (some ⟨g195, 0, none⟩), .int .i64 2] rfl ?_; (with_reducible refine (spec_l1Once.calls g195 t192 t207 t208 2 true t211 t212 w _ ?side1 ?side2 A5.out).mono ?_); (case side1 => repeat (first | (with_reducible first | exact HI195.out | apply IsS90.alloc | apply IsS90.drewN | apply IsS90.drew | apply IsS90.set_1 | apply IsS90.set_2 | refine IsS90.far ?_ NB195_190.out _ | refine IsS90.far ?_ NB195_191.out _ | refine IsS90.far ?_ NB195_202.out _ | refine IsS90.far ?_ NB195_209.out _) | exact HI195.out)); (case side2 => repeat (first | (with_reducible first | exact HB.out | apply below_alloc | apply pw_below_drewN | apply below_drew1 | refine below_set ?_ (IsS90.ge HI195.out) | refine below_set ?_ GE190.out | refine below_set ?_ GE191.out | refine below_set ?_ GE202.out | refine below_set ?_ GE209.out) | exact HB.out)); rintro e w61 ⟨rfl, hi, hb, hk⟩; refine ⟨_, rfl, ?_⟩; have n0_ := Aside0.mk (KeepBut.blk hk (g' := gb190) (o := .cells #[.int .i64 0, .int .i64 0, .int .i64 0, .int .i64 0] 25 (0, 0)) (by (with_reducible repeat (first | refine blk_drewN ?_ _ | refine blk_drew ?_ | refine blk_alloc ?_ _)); refine blk_far ?_ NB190_209.out _; (with_reducible repeat (first | refine blk_drewN ?_ _ | refine blk_drew ?_ | refine blk_alloc ?_ _)); refine blk_far ?_ NB190_209.out _; (with_reducible repeat (first | refine blk_drewN ?_ _ | refine blk_drew ?_ | refine blk_alloc ?_ _)); refine blk_far ?_ NB190_209.out _; (with_reducible repeat (first | refine blk_drewN ?_ _ | refine blk_drew ?_ | refine blk_alloc ?_ _)); refine blk_far ?_ NB190_209.out _; (with_reducible repeat (first | refine blk_drewN ?_ _ | refine blk_drew ?_ | refine blk_alloc ?_ _)); exact BK190.out) NB190_195.out (by simp)); have n1_ := Aside0.mk (KeepBut.blk hk (g' := gb191) (o := .cells #[.int .i64 0, .int .i64 0, .int .i64 0, .int .i64 0] 25 (0, 0)) (by (with_reducible repeat (first | refine blk_drewN ?_ _ | refine blk_drew ?_ | refine blk_alloc ?_ _)); refine blk_far ?_ NB191_209.out _; (with_reducible repeat (first | refine blk_drewN ?_ _ | refine blk_drew ?_ | refine blk_alloc ?_ _)); refine blk_far ?_ NB191_209.out _; (with_reducible repeat (first | refine blk_drewN ?_ _ | refine blk_drew ?_ | refine blk_alloc ?_ _)); refine blk_far ?_ NB191_209.out _; (with_reducible repeat (first | refine blk_drewN ?_ _ | refine blk_drew ?_ | refine blk_alloc ?_ _)); refine blk_far ?_ NB191_209.out _; (with_reducible repeat (first | refine blk_drewN ?_ _ | refine blk_drew ?_ | refine blk_alloc ?_ _)); exact BK191.out) NB191_195.out (by simp)); have n2_ := Aside0.mk (KeepBut.blk hk (g' := gb202) (o := .cells #[.int .i64 t196, .int .i64 t197, .int .i64 t198, .int .i64 t199] 25 (0, 0)) (by (with_reducible repeat (first | refine blk_drewN ?_ _ | refine blk_drew ?_ | refine blk_alloc ?_ _)); refine blk_far ?_ NB202_209.out _; (with_reducible repeat (first | refine blk_drewN ?_ _ | refine blk_drew ?_ | refine blk_alloc ?_ _)); refine blk_far ?_ NB202_209.out _; (with_reducible repeat (first | refine blk_drewN ?_ _ | refine blk_drew ?_ | refine blk_alloc ?_ _)); refine blk_far ?_ NB202_209.out _; (with_reducible repeat (first | refine blk_drewN ?_ _ | refine blk_drew ?_ | refine blk_alloc ?_ _)); refine blk_far ?_ NB202_209.out _; (with_reducible repeat (first | refine blk_drewN ?_ _ | refine blk_drew ?_ | refine blk_alloc ?_ _)); exact BK202.out) NB202_195.out (by simp)); have n3_ := Aside0.mk (KeepBut.blk hk (g' := gb209) (o := .cells #[.int .i64 t203, .int .i64 t204, .int .i64 t205, .int .i64 t206] 25 (0, 0)) (by (with_reducible repeat (first | refine blk_drewN ?_ _ | refine blk_drew ?_ | refine blk_alloc ?_ _)); refine blk_put (cs := #[.int .i64 t203, .int .i64 t204, .int .i64 t205, .int .i64 0]) ?_ 3 _ rfl; (with_reducible repeat (first | refine blk_drewN ?_ _ | refine blk_drew ?_ | refine blk_alloc ?_ _)); refine blk_put (cs := #[.int .i64 t203, .int .i64 t204, .int .i64 0, .int .i64 0]) ?_ 2 _ rfl; (with_reducible repeat (first | refine blk_drewN ?_ _ | refine blk_drew ?_ | refine blk_alloc ?_ _)); refine blk_put (cs := #[.int .i64 t203, .int .i64 0, .int .i64 0, .int .i64 0]) ?_ 1 _ rfl; (with_reducible repeat (first | refine blk_drewN ?_ _ | refine blk_drew ?_ | refine blk_alloc ?_ _)); refine blk_put (cs := #[.int .i64 0, .int .i64 0, .int .i64 0, .int .i64 0]) ?_ 0 _ rfl; (with_reducible repeat (first | refine blk_drewN ?_ _ | refine blk_drew ?_ | refine blk_alloc ?_ _)); exact BK209.out) NB209_195.out (by simp)); have n4_ := Aside0.mk (hb); have n5_ := Aside0.mk (hi); clear BK190 BK191 BK202 BK209 HB HI195; have BK190 := n0_; have BK191 := n1_; have BK202 := n2_; have BK209 := n3_; have HB := n4_; have HI195 := n5_; clear n0_ n1_ n2_ n3_ n4_ n5_; (try clear hb); have hcz62_0 : w61.cell? ⟨gb202, 0, none⟩ = some (.int .i64 t196) := (blk_cell BK202.out 0).trans rfl; have hcz62_1 : w61.cell? ⟨gb202, 1, none⟩ = some (.int .i64 t197) := (blk_cell BK202.out 1).trans rfl; have hcz62_2 : w61.cell? ⟨gb202, 2, none⟩ = some (.int .i64 t198) := (blk_cell BK202.out 2).trans rfl; have hcz62_3 : w61.cell? ⟨gb202, 3, none⟩ = some (.int .i64 t199) := (blk_cell BK202.out 3).trans rfl; have hfz62_0 := blk_frozen BK202.out 0; have hfz62_1 := blk_frozen BK202.out 1; have hfz62_2 := blk_frozen BK202.out 2; have hfz62_3 := blk_frozen BK202.out 3; have hcz63_0 : w61.cell? ⟨gb209, 0, none⟩ = some (.int .i64 t203) := (blk_cell BK209.out 0).trans rfl; have hcz63_1 : w61.cell? ⟨gb209, 1, none⟩ = some (.int .i64 t204) := (blk_cell BK209.out 1).trans rfl; have hcz63_2 : w61.cell? ⟨gb209, 2, none⟩ = some (.int .i64 t205) := (blk_cell BK209.out 2).trans rfl; have hcz63_3 : w61.cell? ⟨gb209, 3, none⟩ = some (.int .i64 t206) := (blk_cell BK209.out 3).trans rfl; have hfz63_0 := blk_frozen BK209.out 0; have hfz63_1 := blk_frozen BK209.out 1; have hfz63_2 := blk_frozen BK209.out 2; have hfz63_3 := blk_frozen BK209.out 3))
    have n0_ : Aside0 (((((w61.setCell ⟨gb209, 0, none⟩ (.int .i64 t196)).setCell ⟨gb209, 1, none⟩ (.int .i64 t197)).setCell ⟨gb209, 2, none⟩ (.int .i64 t198)).setCell ⟨gb209, 3, none⟩ (.int .i64 t199)).heap[gb190]? = some (.cells #[.int .i64 0, .int .i64 0, .int .i64 0, .int .i64 0] 25 (0, 0))) := ⟨by (with_reducible repeat (first | refine blk_drewN ?_ _ | refine blk_drew ?_ | refine blk_alloc ?_ _)); refine blk_far ?_ NB190_209.out _; (with_reducible repeat (first | refine blk_drewN ?_ _ | refine blk_drew ?_ | refine blk_alloc ?_ _)); refine blk_far ?_ NB190_209.out _; (with_reducible repeat (first | refine blk_drewN ?_ _ | refine blk_drew ?_ | refine blk_alloc ?_ _)); refine blk_far ?_ NB190_209.out _; (with_reducible repeat (first | refine blk_drewN ?_ _ | refine blk_drew ?_ | refine blk_alloc ?_ _)); refine blk_far ?_ NB190_209.out _; (with_reducible repeat (first | refine blk_drewN ?_ _ | refine blk_drew ?_ | refine blk_alloc ?_ _)); exact BK190.out⟩
    have n1_ : Aside0 (((((w61.setCell ⟨gb209, 0, none⟩ (.int .i64 t196)).setCell ⟨gb209, 1, none⟩ (.int .i64 t197)).setCell ⟨gb209, 2, none⟩ (.int .i64 t198)).setCell ⟨gb209, 3, none⟩ (.int .i64 t199)).heap[gb191]? = some (.cells #[.int .i64 0, .int .i64 0, .int .i64 0, .int .i64 0] 25 (0, 0))) := ⟨by (with_reducible repeat (first | refine blk_drewN ?_ _ | refine blk_drew ?_ | refine blk_alloc ?_ _)); refine blk_far ?_ NB191_209.out _; (with_reducible repeat (first | refine blk_drewN ?_ _ | refine blk_drew ?_ | refine blk_alloc ?_ _)); refine blk_far ?_ NB191_209.out _; (with_reducible repeat (first | refine blk_drewN ?_ _ | refine blk_drew ?_ | refine blk_alloc ?_ _)); refine blk_far ?_ NB191_209.out _; (with_reducible repeat (first | refine blk_drewN ?_ _ | refine blk_drew ?_ | refine blk_alloc ?_ _)); refine blk_far ?_ NB191_209.out _; (with_reducible repeat (first | refine blk_drewN ?_ _ | refine blk_drew ?_ | refine blk_alloc ?_ _)); exact BK191.out⟩
    have n2_ : Aside0 (((((w61.setCell ⟨gb209, 0, none⟩ (.int .i64 t196)).setCell ⟨gb209, 1, none⟩ (.int .i64 t197)).setCell ⟨gb209, 2, none⟩ (.int .i64 t198)).setCell ⟨gb209, 3, none⟩ (.int .i64 t199)).heap[gb202]? = some (.cells #[.int .i64 t196, .int .i64 t197, .int .i64 t198, .int .i64 t199] 25 (0, 0))) := ⟨by (with_reducible repeat (first | refine blk_drewN ?_ _ | refine blk_drew ?_ | refine blk_alloc ?_ _)); refine blk_far ?_ NB202_209.out _; (with_reducible repeat (first | refine blk_drewN ?_ _ | refine blk_drew ?_ | refine blk_alloc ?_ _)); refine blk_far ?_ NB202_209.out _; (with_reducible repeat (first | refine blk_drewN ?_ _ | refine blk_drew ?_ | refine blk_alloc ?_ _)); refine blk_far ?_ NB202_209.out _; (with_reducible repeat (first | refine blk_drewN ?_ _ | refine blk_drew ?_ | refine blk_alloc ?_ _)); refine blk_far ?_ NB202_209.out _; (with_reducible repeat (first | refine blk_drewN ?_ _ | refine blk_drew ?_ | refine blk_alloc ?_ _)); exact BK202.out⟩
    have n3_ : Aside0 (((((w61.setCell ⟨gb209, 0, none⟩ (.int .i64 t196)).setCell ⟨gb209, 1, none⟩ (.int .i64 t197)).setCell ⟨gb209, 2, none⟩ (.int .i64 t198)).setCell ⟨gb209, 3, none⟩ (.int .i64 t199)).heap[gb209]? = some (.cells #[.int .i64 t196, .int .i64 t197, .int .i64 t198, .int .i64 t199] 25 (0, 0))) := ⟨by (with_reducible repeat (first | refine blk_drewN ?_ _ | refine blk_drew ?_ | refine blk_alloc ?_ _)); refine blk_put (cs := #[.int .i64 t196, .int .i64 t197, .int .i64 t198, .int .i64 t206]) ?_ 3 _ rfl; (with_reducible repeat (first | refine blk_drewN ?_ _ | refine blk_drew ?_ | refine blk_alloc ?_ _)); refine blk_put (cs := #[.int .i64 t196, .int .i64 t197, .int .i64 t205, .int .i64 t206]) ?_ 2 _ rfl; (with_reducible repeat (first | refine blk_drewN ?_ _ | refine blk_drew ?_ | refine blk_alloc ?_ _)); refine blk_put (cs := #[.int .i64 t196, .int .i64 t204, .int .i64 t205, .int .i64 t206]) ?_ 1 _ rfl; (with_reducible repeat (first | refine blk_drewN ?_ _ | refine blk_drew ?_ | refine blk_alloc ?_ _)); refine blk_put (cs := #[.int .i64 t203, .int .i64 t204, .int .i64 t205, .int .i64 t206]) ?_ 0 _ rfl; (with_reducible repeat (first | refine blk_drewN ?_ _ | refine blk_drew ?_ | refine blk_alloc ?_ _)); exact BK209.out⟩
    have n4_ : Aside0 (IsS90 w ((((w61.setCell ⟨gb209, 0, none⟩ (.int .i64 t196)).setCell ⟨gb209, 1, none⟩ (.int .i64 t197)).setCell ⟨gb209, 2, none⟩ (.int .i64 t198)).setCell ⟨gb209, 3, none⟩ (.int .i64 t199)) g195 t192 t211 t212) := ⟨by repeat (first | (with_reducible first | exact HI195.out | apply IsS90.alloc | apply IsS90.drewN | apply IsS90.drew | apply IsS90.set_1 | apply IsS90.set_2 | refine IsS90.far ?_ NB195_190.out _ | refine IsS90.far ?_ NB195_191.out _ | refine IsS90.far ?_ NB195_202.out _ | refine IsS90.far ?_ NB195_209.out _) | exact HI195.out)⟩
    have n5_ : Aside0 (Below w.heap.size w ((((w61.setCell ⟨gb209, 0, none⟩ (.int .i64 t196)).setCell ⟨gb209, 1, none⟩ (.int .i64 t197)).setCell ⟨gb209, 2, none⟩ (.int .i64 t198)).setCell ⟨gb209, 3, none⟩ (.int .i64 t199))) := ⟨by repeat (first | (with_reducible first | exact HB.out | apply below_alloc | apply pw_below_drewN | apply below_drew1 | refine below_set ?_ (IsS90.ge HI195.out) | refine below_set ?_ GE190.out | refine below_set ?_ GE191.out | refine below_set ?_ GE202.out | refine below_set ?_ GE209.out) | exact HB.out)⟩
    (try clear BK190)
    (try clear BK191)
    (try clear BK202)
    (try clear BK209)
    (try clear HI195)
    (try clear HB)
    generalize ((((w61.setCell ⟨gb209, 0, none⟩ (.int .i64 t196)).setCell ⟨gb209, 1, none⟩ (.int .i64 t197)).setCell ⟨gb209, 2, none⟩ (.int .i64 t198)).setCell ⟨gb209, 3, none⟩ (.int .i64 t199)) = w64 at n0_ n1_ n2_ n3_ n4_ n5_ ⊢
    have BK190 := n0_
    have BK191 := n1_
    have BK202 := n2_
    have BK209 := n3_
    have HI195 := n4_
    have HB := n5_
    clear n0_ n1_ n2_ n3_ n4_ n5_
    have n0_ := Aside0.mk (blk_drew BK190.out)
    have n1_ := Aside0.mk (blk_drew BK191.out)
    have n2_ := Aside0.mk (blk_drew BK202.out)
    have n3_ := Aside0.mk (blk_drew BK209.out)
    have n4_ := Aside0.mk (IsS90.drew HI195.out)
    have n5_ := Aside0.mk (below_drew1 HB.out)
    clear BK190 BK191 BK202 BK209 HI195 HB
    have BK190 := n0_
    have BK191 := n1_
    have BK202 := n2_
    have BK209 := n3_
    have HI195 := n4_
    have HB := n5_
    clear n0_ n1_ n2_ n3_ n4_ n5_
    refine start_ (n := 7) (S := fun w' => w'.cell? ⟨gb202, 0, none⟩ = some (.int .i64 t196) ∧ w'.cell? ⟨gb202, 1, none⟩ = some (.int .i64 t197) ∧ w'.cell? ⟨gb202, 2, none⟩ = some (.int .i64 t198) ∧ w'.cell? ⟨gb202, 3, none⟩ = some (.int .i64 t199)) (ds := []) #[false, false, false, false, false, false, false] (by kernel_rfl) rfl rfl (c4e BK202) (fun hHeld => ?_)
    generalize w64.drew = w65 at BK190 BK191 BK202 BK209 HI195 HB hHeld ⊢
    refine pure_ (i := 0) (N := some 16) (v := ?_) (a' := ?_) #[true, false, false, false, false, false, false] rfl rfl (by kernel_rfl) (fun _ _ _ h => h) (Or.inl ⟨by rfl, ?_⟩) ?_ ?_
    rotate_left
    ·intro w'
     go_simp
     with_reducible rfl
    rotate_left
    ·simp only [Act.put, List.setIfInBounds_toArray, List.set_cons_zero, List.set_cons_succ, i64_w, i32_w]
     rfl
    refine pure_ (i := 2) (N := some 18) (v := ?_) (a' := ?_) #[true, false, true, false, false, false, false] rfl rfl (by kernel_rfl) (fun _ _ _ h => h) (Or.inl ⟨by rfl, ?_⟩) ?_ ?_
    rotate_left
    ·intro w'
     go_simp
     with_reducible rfl
    rotate_left
    ·simp only [Act.put, List.setIfInBounds_toArray, List.set_cons_zero, List.set_cons_succ, i64_w, i32_w]
     rfl
    refine take_ (i := 1) (N := some 17) (v := ?_) (a' := ?_) #[true, true, true, false, false, false, false] rfl rfl (by kernel_rfl) (fun _ _ _ h => h) (Or.inl ⟨by rfl, ?_⟩) hHeld ?_ ?_
    rotate_left
    ·rintro w' ⟨s0, s1, s2, s3⟩
     go_simp
     with_reducible rfl
    rotate_left
    ·simp only [Act.put, List.setIfInBounds_toArray, List.set_cons_zero, List.set_cons_succ, i64_w, i32_w]
     rfl
    refine one_ (i := 3) (N := some 19) #[true, true, true, true, false, false, false] rfl rfl (by kernel_rfl) (by decide) (fun K hK => ?_)
    refine goesR Try.func86 (by kernel_rfl) rfl #[.pointer (some ⟨g195, 0, none⟩), .int .i64 64] (by rfl) rfl rfl ?_
    with_reducible refine (spec_l1Below.calls g195 t192 t211 t212 64 t213 t214 t215 w _ ?side1 ?side2 A7.out).mono ?_
    (case side1 => repeat (first | (with_reducible first | exact HI195.out | apply IsS90.alloc | apply IsS90.drewN | apply IsS90.drew | apply IsS90.set_1 | apply IsS90.set_2 | refine IsS90.far ?_ NB195_190.out _ | refine IsS90.far ?_ NB195_191.out _ | refine IsS90.far ?_ NB195_202.out _ | refine IsS90.far ?_ NB195_209.out _) | exact HI195.out))
    (case side2 => repeat (first | (with_reducible first | exact HB.out | apply below_alloc | apply pw_below_drewN | apply below_drew1 | refine below_set ?_ (IsS90.ge HI195.out) | refine below_set ?_ GE190.out | refine below_set ?_ GE191.out | refine below_set ?_ GE202.out | refine below_set ?_ GE209.out) | exact HB.out))
    rintro e w66 ⟨rfl, hi, hb, hk⟩
    refine ⟨_, rfl, ?_⟩
    have n0_ := Aside0.mk (KeepBut.blk hk (g' := gb190) (o := .cells #[.int .i64 0, .int .i64 0, .int .i64 0, .int .i64 0] 25 (0, 0)) (nb BK190) NB190_195.out (by simp))
    have n1_ := Aside0.mk (KeepBut.blk hk (g' := gb191) (o := .cells #[.int .i64 0, .int .i64 0, .int .i64 0, .int .i64 0] 25 (0, 0)) (nb BK191) NB191_195.out (by simp))
    have n2_ := Aside0.mk (KeepBut.blk hk (g' := gb202) (o := .cells #[.int .i64 t196, .int .i64 t197, .int .i64 t198, .int .i64 t199] 25 (0, 0)) (nb BK202) NB202_195.out (by simp))
    have n3_ := Aside0.mk (KeepBut.blk hk (g' := gb209) (o := .cells #[.int .i64 t196, .int .i64 t197, .int .i64 t198, .int .i64 t199] 25 (0, 0)) (nb BK209) NB209_195.out (by simp))
    have n4_ := Aside0.mk (hb)
    have n5_ := Aside0.mk (hi)
    clear BK190 BK191 BK202 BK209 HB HI195
    have BK190 := n0_
    have BK191 := n1_
    have BK202 := n2_
    have BK209 := n3_
    have HB := n4_
    have HI195 := n5_
    clear n0_ n1_ n2_ n3_ n4_ n5_
    (try clear hb)
    refine hK.out _ _ (c4e BK202) (fun hHeld => ?_)
    clear hK K
    refine norm_ (a' := ?_) ?_ ?_
    rotate_left
    ·show Act.put _ (some 19) _ = _
     simp only [Act.put, List.setIfInBounds_toArray, List.set_cons_zero, List.set_cons_succ, i64_w, i32_w]
     rfl
    refine pure_ (i := 4) (N := some 20) (v := ?_) (a' := ?_) #[true, true, true, true, true, false, false] rfl rfl (by kernel_rfl) (fun _ _ _ h => h) (Or.inl ⟨by rfl, ?_⟩) ?_ ?_
    rotate_left
    ·intro w'
     go_simp
     with_reducible rfl
    rotate_left
    ·simp only [Act.put, List.setIfInBounds_toArray, List.set_cons_zero, List.set_cons_succ, i64_w, i32_w]
     rfl
    refine pure_ (i := 5) (N := some 21) (v := ?_) (a' := ?_) #[true, true, true, true, true, true, false] rfl rfl (by kernel_rfl) (fun _ _ _ h => h) (Or.inl ⟨by rfl, ?_⟩) ?_ ?_
    rotate_left
    ·intro w'
     go_simp
     with_reducible rfl
    rotate_left
    ·simp only [Act.put, List.setIfInBounds_toArray, List.set_cons_zero, List.set_cons_succ, i64_w, i32_w]
     rfl
    refine one_ (i := 6) (N := none) #[true, true, true, true, true, true, true] rfl rfl (by kernel_rfl) (by decide) (fun K hK => ?_)
    have hs67 : w66.cell? ⟨gb209, 2, none⟩ = some (.int .i64 t198) := (blk_cell BK209.out 2).trans rfl
    have hfs67 := blk_frozen BK209.out 2
    have hns67_0 := NB190_209.out
    have hns67_1 := NB191_209.out
    have hns67_2 := NB202_209.out
    have hms67_0 := NB209_190.out
    have hms67_1 := NB209_191.out
    have hms67_2 := NB209_202.out
    refine skip_ (w1 := ?_) (by rfl) rfl ?_ ?_
    rotate_left
    ·go_simp
     rfl
    refine hK.out _ _ ⟨(g1 NB202_209.out hHeld.1), (g1 NB202_209.out hHeld.2.1), (g1 NB202_209.out hHeld.2.2.1), (g1 NB202_209.out hHeld.2.2.2)⟩ (fun hHeld => ?_)
    clear hK K
    refine done_ (by kernel_rfl) ?_
    have hcz68_0 : w66.cell? ⟨gb202, 0, none⟩ = some (.int .i64 t196) := (blk_cell BK202.out 0).trans rfl
    have hcz68_1 : w66.cell? ⟨gb202, 1, none⟩ = some (.int .i64 t197) := (blk_cell BK202.out 1).trans rfl
    have hcz68_2 : w66.cell? ⟨gb202, 2, none⟩ = some (.int .i64 t198) := (blk_cell BK202.out 2).trans rfl
    have hcz68_3 : w66.cell? ⟨gb202, 3, none⟩ = some (.int .i64 t199) := (blk_cell BK202.out 3).trans rfl
    have hfz68_0 := blk_frozen BK202.out 0
    have hfz68_1 := blk_frozen BK202.out 1
    have hfz68_2 := blk_frozen BK202.out 2
    have hfz68_3 := blk_frozen BK202.out 3
    try go_wp2
    have n0_ : Aside0 ((w66.setCell ⟨gb209, 2, none⟩ (.int .i64 (Go.bits .and .i64 t198 t213))).heap[gb190]? = some (.cells #[.int .i64 0, .int .i64 0, .int .i64 0, .int .i64 0] 25 (0, 0))) := ⟨by (with_reducible repeat (first | refine blk_drewN ?_ _ | refine blk_drew ?_ | refine blk_alloc ?_ _)); refine blk_far ?_ NB190_209.out _; (with_reducible repeat (first | refine blk_drewN ?_ _ | refine blk_drew ?_ | refine blk_alloc ?_ _)); exact BK190.out⟩
    have n1_ : Aside0 ((w66.setCell ⟨gb209, 2, none⟩ (.int .i64 (Go.bits .and .i64 t198 t213))).heap[gb191]? = some (.cells #[.int .i64 0, .int .i64 0, .int .i64 0, .int .i64 0] 25 (0, 0))) := ⟨by (with_reducible repeat (first | refine blk_drewN ?_ _ | refine blk_drew ?_ | refine blk_alloc ?_ _)); refine blk_far ?_ NB191_209.out _; (with_reducible repeat (first | refine blk_drewN ?_ _ | refine blk_drew ?_ | refine blk_alloc ?_ _)); exact BK191.out⟩
    have n2_ : Aside0 ((w66.setCell ⟨gb209, 2, none⟩ (.int .i64 (Go.bits .and .i64 t198 t213))).heap[gb202]? = some (.cells #[.int .i64 t196, .int .i64 t197, .int .i64 t198, .int .i64 t199] 25 (0, 0))) := ⟨by (with_reducible repeat (first | refine blk_drewN ?_ _ | refine blk_drew ?_ | refine blk_alloc ?_ _)); refine blk_far ?_ NB202_209.out _; (with_reducible repeat (first | refine blk_drewN ?_ _ | refine blk_drew ?_ | refine blk_alloc ?_ _)); exact BK202.out⟩
    have n3_ : Aside0 ((w66.setCell ⟨gb209, 2, none⟩ (.int .i64 (Go.bits .and .i64 t198 t213))).heap[gb209]? = some (.cells #[.int .i64 t196, .int .i64 t197, .int .i64 (Go.bits .and .i64 t198 t213), .int .i64 t199] 25 (0, 0))) := ⟨by (with_reducible repeat (first | refine blk_drewN ?_ _ | refine blk_drew ?_ | refine blk_alloc ?_ _)); refine blk_put (cs := #[.int .i64 t196, .int .i64 t197, .int .i64 t198, .int .i64 t199]) ?_ 2 _ rfl; (with_reducible repeat (first | refine blk_drewN ?_ _ | refine blk_drew ?_ | refine blk_alloc ?_ _)); exact BK209.out⟩
    have n4_ : Aside0 (IsS90 w (w66.setCell ⟨gb209, 2, none⟩ (.int .i64 (Go.bits .and .i64 t198 t213))) g195 t192 t214 t215) := ⟨by repeat (first | (with_reducible first | exact HI195.out | apply IsS90.alloc | apply IsS90.drewN | apply IsS90.drew | apply IsS90.set_1 | apply IsS90.set_2 | refine IsS90.far ?_ NB195_190.out _ | refine IsS90.far ?_ NB195_191.out _ | refine IsS90.far ?_ NB195_202.out _ | refine IsS90.far ?_ NB195_209.out _) | exact HI195.out)⟩
    have n5_ : Aside0 (Below w.heap.size w (w66.setCell ⟨gb209, 2, none⟩ (.int .i64 (Go.bits .and .i64 t198 t213)))) := ⟨by repeat (first | (with_reducible first | exact HB.out | apply below_alloc | apply pw_below_drewN | apply below_drew1 | refine below_set ?_ (IsS90.ge HI195.out) | refine below_set ?_ GE190.out | refine below_set ?_ GE191.out | refine below_set ?_ GE202.out | refine below_set ?_ GE209.out) | exact HB.out)⟩
    (try clear BK190)
    (try clear BK191)
    (try clear BK202)
    (try clear BK209)
    (try clear HI195)
    (try clear HB)
    generalize (w66.setCell ⟨gb209, 2, none⟩ (.int .i64 (Go.bits .and .i64 t198 t213))) = w69 at n0_ n1_ n2_ n3_ n4_ n5_ ⊢
    have BK190 := n0_
    have BK191 := n1_
    have BK202 := n2_
    have BK209 := n3_
    have HI195 := n4_
    have HB := n5_
    clear n0_ n1_ n2_ n3_ n4_ n5_
    have n0_ := Aside0.mk (blk_drew BK190.out)
    have n1_ := Aside0.mk (blk_drew BK191.out)
    have n2_ := Aside0.mk (blk_drew BK202.out)
    have n3_ := Aside0.mk (blk_drew BK209.out)
    have n4_ := Aside0.mk (IsS90.drew HI195.out)
    have n5_ := Aside0.mk (below_drew1 HB.out)
    clear BK190 BK191 BK202 BK209 HI195 HB
    have BK190 := n0_
    have BK191 := n1_
    have BK202 := n2_
    have BK209 := n3_
    have HI195 := n4_
    have HB := n5_
    clear n0_ n1_ n2_ n3_ n4_ n5_
    refine start_ (n := 4) (S := fun w' => w'.cell? ⟨gb202, 0, none⟩ = some (.int .i64 t196) ∧ w'.cell? ⟨gb202, 1, none⟩ = some (.int .i64 t197) ∧ w'.cell? ⟨gb202, 2, none⟩ = some (.int .i64 t198) ∧ w'.cell? ⟨gb202, 3, none⟩ = some (.int .i64 t199) ∧ w'.cell? ⟨gb209, 0, none⟩ = some (.int .i64 t196) ∧ w'.cell? ⟨gb209, 1, none⟩ = some (.int .i64 t197) ∧ w'.cell? ⟨gb209, 2, none⟩ = some (.int .i64 (Go.bits .and .i64 t198 t213)) ∧ w'.cell? ⟨gb209, 3, none⟩ = some (.int .i64 t199)) (ds := []) #[false, false, false, false] (by kernel_rfl) rfl rfl (c4 BK202 (c4e BK209)) (fun hHeld => ?_)
    generalize w69.drew = w70 at BK190 BK191 BK202 BK209 HI195 HB hHeld ⊢
    refine take_ (i := 0) (N := some 37) (v := ?_) (a' := ?_) #[true, false, false, false] rfl rfl (by kernel_rfl) (fun _ _ _ h => h) (Or.inl ⟨by rfl, ?_⟩) hHeld ?_ ?_
    rotate_left
    ·rintro w' ⟨s0, s1, s2, s3, s4, s5, s6, s7⟩
     go_simp
     with_reducible rfl
    rotate_left
    ·simp only [Act.put, List.setIfInBounds_toArray, List.set_cons_zero, List.set_cons_succ, i64_w, i32_w]
     rfl
    refine take_ (i := 1) (N := some 38) (v := ?_) (a' := ?_) #[true, true, false, false] rfl rfl (by kernel_rfl) (fun _ _ _ h => h) (Or.inl ⟨by rfl, ?_⟩) hHeld ?_ ?_
    rotate_left
    ·rintro w' ⟨s0, s1, s2, s3, s4, s5, s6, s7⟩
     go_simp
     with_reducible rfl
    rotate_left
    ·simp only [Act.put, List.setIfInBounds_toArray, List.set_cons_zero, List.set_cons_succ, i64_w, i32_w]
     rfl
    refine one_ (i := 2) (N := none) #[true, true, true, false] rfl rfl (by kernel_rfl) (by decide) (fun K hK => ?_)
    have hs71 : w70.cell? ⟨gb190, 0, none⟩ = some (.int .i64 0) := (blk_cell BK190.out 0).trans rfl
    have hfs71 := blk_frozen BK190.out 0
    have hns71_1 := NB191_190.out
    have hns71_2 := NB202_190.out
    have hns71_3 := NB209_190.out
    have hms71_1 := NB190_191.out
    have hms71_2 := NB190_202.out
    have hms71_3 := NB190_209.out
    have hs72 : w70.cell? ⟨gb190, 1, none⟩ = some (.int .i64 0) := (blk_cell BK190.out 1).trans rfl
    have hfs72 := blk_frozen BK190.out 1
    have hns72_1 := NB191_190.out
    have hns72_2 := NB202_190.out
    have hns72_3 := NB209_190.out
    have hms72_1 := NB190_191.out
    have hms72_2 := NB190_202.out
    have hms72_3 := NB190_209.out
    have hs73 : w70.cell? ⟨gb190, 2, none⟩ = some (.int .i64 0) := (blk_cell BK190.out 2).trans rfl
    have hfs73 := blk_frozen BK190.out 2
    have hns73_1 := NB191_190.out
    have hns73_2 := NB202_190.out
    have hns73_3 := NB209_190.out
    have hms73_1 := NB190_191.out
    have hms73_2 := NB190_202.out
    have hms73_3 := NB190_209.out
    have hs74 : w70.cell? ⟨gb190, 3, none⟩ = some (.int .i64 0) := (blk_cell BK190.out 3).trans rfl
    have hfs74 := blk_frozen BK190.out 3
    have hns74_1 := NB191_190.out
    have hns74_2 := NB202_190.out
    have hns74_3 := NB209_190.out
    have hms74_1 := NB190_191.out
    have hms74_2 := NB190_202.out
    have hms74_3 := NB190_209.out
    refine skip_ (w1 := ?_) (by rfl) rfl ?_ ?_
    rotate_left
    ·go_simp
     rfl
    refine hK.out _ _ ⟨(g4 NB202_190.out hHeld.1), (g4 NB202_190.out hHeld.2.1), (g4 NB202_190.out hHeld.2.2.1), (g4 NB202_190.out hHeld.2.2.2.1), (g4 NB209_190.out hHeld.2.2.2.2.1), (g4 NB209_190.out hHeld.2.2.2.2.2.1), (g4 NB209_190.out hHeld.2.2.2.2.2.2.1), (g4 NB209_190.out hHeld.2.2.2.2.2.2.2)⟩ (fun hHeld => ?_)
    clear hK K
    refine one_ (i := 3) (N := none) #[true, true, true, true] rfl rfl (by kernel_rfl) (by decide) (fun K hK => ?_)
    have hs75 : w70.cell? ⟨gb191, 0, none⟩ = some (.int .i64 0) := (blk_cell BK191.out 0).trans rfl
    have hfs75 := blk_frozen BK191.out 0
    have hns75_0 := NB190_191.out
    have hns75_2 := NB202_191.out
    have hns75_3 := NB209_191.out
    have hms75_0 := NB191_190.out
    have hms75_2 := NB191_202.out
    have hms75_3 := NB191_209.out
    have hs76 : w70.cell? ⟨gb191, 1, none⟩ = some (.int .i64 0) := (blk_cell BK191.out 1).trans rfl
    have hfs76 := blk_frozen BK191.out 1
    have hns76_0 := NB190_191.out
    have hns76_2 := NB202_191.out
    have hns76_3 := NB209_191.out
    have hms76_0 := NB191_190.out
    have hms76_2 := NB191_202.out
    have hms76_3 := NB191_209.out
    have hs77 : w70.cell? ⟨gb191, 2, none⟩ = some (.int .i64 0) := (blk_cell BK191.out 2).trans rfl
    have hfs77 := blk_frozen BK191.out 2
    have hns77_0 := NB190_191.out
    have hns77_2 := NB202_191.out
    have hns77_3 := NB209_191.out
    have hms77_0 := NB191_190.out
    have hms77_2 := NB191_202.out
    have hms77_3 := NB191_209.out
    have hs78 : w70.cell? ⟨gb191, 3, none⟩ = some (.int .i64 0) := (blk_cell BK191.out 3).trans rfl
    have hfs78 := blk_frozen BK191.out 3
    have hns78_0 := NB190_191.out
    have hns78_2 := NB202_191.out
    have hns78_3 := NB209_191.out
    have hms78_0 := NB191_190.out
    have hms78_2 := NB191_202.out
    have hms78_3 := NB191_209.out
    refine skip_ (w1 := ?_) (by rfl) rfl ?_ ?_
    rotate_left
    ·go_simp
     rfl
    refine hK.out _ _ ⟨(g4 NB202_191.out hHeld.1), (g4 NB202_191.out hHeld.2.1), (g4 NB202_191.out hHeld.2.2.1), (g4 NB202_191.out hHeld.2.2.2.1), (g4 NB209_191.out hHeld.2.2.2.2.1), (g4 NB209_191.out hHeld.2.2.2.2.2.1), (g4 NB209_191.out hHeld.2.2.2.2.2.2.1), (g4 NB209_191.out hHeld.2.2.2.2.2.2.2)⟩ (fun hHeld => ?_)
    clear hK K
    refine done_ (by kernel_rfl) ?_
    try go_wp2
    refine bodyPost_ret (results_cc rfl _ _ gb190 gb191 25 25 #[.int .i64 t196, .int .i64 t197, .int .i64 t198, .int .i64 t199] #[.int .i64 t196, .int .i64 t197, .int .i64 (Go.bits .and .i64 t198 t213), .int .i64 t199] (0, 0) (0, 0) _ _ rfl (by (with_reducible repeat (first | refine blk_drewN ?_ _ | refine blk_drew ?_ | refine blk_alloc ?_ _)); refine blk_far ?_ NB190_191.out _; (with_reducible repeat (first | refine blk_drewN ?_ _ | refine blk_drew ?_ | refine blk_alloc ?_ _)); refine blk_far ?_ NB190_191.out _; (with_reducible repeat (first | refine blk_drewN ?_ _ | refine blk_drew ?_ | refine blk_alloc ?_ _)); refine blk_far ?_ NB190_191.out _; (with_reducible repeat (first | refine blk_drewN ?_ _ | refine blk_drew ?_ | refine blk_alloc ?_ _)); refine blk_far ?_ NB190_191.out _; (with_reducible repeat (first | refine blk_drewN ?_ _ | refine blk_drew ?_ | refine blk_alloc ?_ _)); refine blk_put (cs := #[.int .i64 t196, .int .i64 t197, .int .i64 t198, .int .i64 0]) ?_ 3 _ rfl; (with_reducible repeat (first | refine blk_drewN ?_ _ | refine blk_drew ?_ | refine blk_alloc ?_ _)); refine blk_put (cs := #[.int .i64 t196, .int .i64 t197, .int .i64 0, .int .i64 0]) ?_ 2 _ rfl; (with_reducible repeat (first | refine blk_drewN ?_ _ | refine blk_drew ?_ | refine blk_alloc ?_ _)); refine blk_put (cs := #[.int .i64 t196, .int .i64 0, .int .i64 0, .int .i64 0]) ?_ 1 _ rfl; (with_reducible repeat (first | refine blk_drewN ?_ _ | refine blk_drew ?_ | refine blk_alloc ?_ _)); refine blk_put (cs := #[.int .i64 0, .int .i64 0, .int .i64 0, .int .i64 0]) ?_ 0 _ rfl; (with_reducible repeat (first | refine blk_drewN ?_ _ | refine blk_drew ?_ | refine blk_alloc ?_ _)); exact BK190.out) Try.underlying25 rfl (by kernel_rfl) rfl (by (with_reducible repeat (first | refine blk_drewN ?_ _ | refine blk_drew ?_ | refine blk_alloc ?_ _)); refine blk_put (cs := #[.int .i64 t196, .int .i64 t197, .int .i64 (Go.bits .and .i64 t198 t213), .int .i64 0]) ?_ 3 _ rfl; (with_reducible repeat (first | refine blk_drewN ?_ _ | refine blk_drew ?_ | refine blk_alloc ?_ _)); refine blk_put (cs := #[.int .i64 t196, .int .i64 t197, .int .i64 0, .int .i64 0]) ?_ 2 _ rfl; (with_reducible repeat (first | refine blk_drewN ?_ _ | refine blk_drew ?_ | refine blk_alloc ?_ _)); refine blk_put (cs := #[.int .i64 t196, .int .i64 0, .int .i64 0, .int .i64 0]) ?_ 1 _ rfl; (with_reducible repeat (first | refine blk_drewN ?_ _ | refine blk_drew ?_ | refine blk_alloc ?_ _)); refine blk_put (cs := #[.int .i64 0, .int .i64 0, .int .i64 0, .int .i64 0]) ?_ 0 _ rfl; (with_reducible repeat (first | refine blk_drewN ?_ _ | refine blk_drew ?_ | refine blk_alloc ?_ _)); refine blk_far ?_ NB191_190.out _; (with_reducible repeat (first | refine blk_drewN ?_ _ | refine blk_drew ?_ | refine blk_alloc ?_ _)); refine blk_far ?_ NB191_190.out _; (with_reducible repeat (first | refine blk_drewN ?_ _ | refine blk_drew ?_ | refine blk_alloc ?_ _)); refine blk_far ?_ NB191_190.out _; (with_reducible repeat (first | refine blk_drewN ?_ _ | refine blk_drew ?_ | refine blk_alloc ?_ _)); refine blk_far ?_ NB191_190.out _; (with_reducible repeat (first | refine blk_drewN ?_ _ | refine blk_drew ?_ | refine blk_alloc ?_ _)); exact BK191.out) Try.underlying25 rfl (by kernel_rfl)) rfl ?_
    exact ⟨by first | rfl | (simp [errW_none, errW_some] <;> rfl) | (simp [*, errW_none, errW_some] <;> rfl), by repeat (first | (with_reducible first | exact HB.out | apply below_alloc | apply pw_below_drewN | apply below_drew1 | refine below_set ?_ (IsS90.ge HI195.out) | refine below_set ?_ GE190.out | refine below_set ?_ GE191.out | refine below_set ?_ GE202.out | refine below_set ?_ GE209.out) | exact HB.out)⟩
  ·rw [if_neg c8] at H
   have c8b0 : decide (2 < (wrap64 (t197 - t196))) = false := decide_eq_false c8
   clear c8
   simp only [Option.some.injEq, Prod.mk.injEq] at H
   obtain ⟨rfl, rfl, rfl, rfl, rfl, rfl, rfl, rfl⟩ := H
   go_enter Try.func80, Try.ntmps80
   try go_wp2_with (first | ((with_reducible refine gate_dst (N := 2) rfl ?_); refine box_event ?hg (N := 2) ?hd (cs := #[.int .i64 0, .int .i64 0, .int .i64 0, .int .i64 0]) (t := 25) ?hr ?_; (case hd => rfl); (case hg => rfl); (case hr => first | (go_simp; done) | (go_simp; rfl)); intro gb190 hg w79 hbox hb; have n0_ := nbs HB hb; have n1_ := Aside0.mk (hbox); have n2_ := nge HB hg; have n3_ := nge HB hg; clear HB; have HB := n0_; have BK190 := n1_; have GW190 := n2_; have GE190 := n3_; clear n0_ n1_ n2_ n3_; clear hb hbox hg) | ((with_reducible refine gate_dst (N := 3) rfl ?_); refine box_event ?hg (N := 3) ?hd (cs := #[.int .i64 0, .int .i64 0, .int .i64 0, .int .i64 0]) (t := 25) ?hr ?_; (case hd => rfl); (case hg => rfl); (case hr => first | (go_simp; done) | (go_simp; rfl)); intro gb191 hg w80 hbox hb; have n0_ := nblk BK190 hb; have n1_ := nbs HB hb; have n2_ := Aside0.mk (hbox); have n3_ := nge HB hg; have n4_ := nge HB hg; have n5_ := nlt BK190 hg; have n6_ := ngt BK190 hg; clear BK190 HB; have BK190 := n0_; have HB := n1_; have BK191 := n2_; have GW191 := n3_; have GE191 := n4_; have NB190_191 := n5_; have NB191_190 := n6_; clear n0_ n1_ n2_ n3_ n4_ n5_ n6_; clear hb hbox hg) | ((with_reducible refine gate_callee (f := 71) rfl ?_); refine goesM (some 8) rfl rfl Try.func71 (by kernel_rfl) rfl #[.slice A0 l0.length c0] rfl ?_; (with_reducible refine (spec_l1New.calls k _ _ l0 t192 t193 t194 w _ ?side1 ?side2 ?side3 A2.out).mono ?_); (case side1 => repeat (first | (with_reducible first | exact HB.out | apply below_alloc | apply pw_below_drewN | apply below_drew1 | refine below_set ?_ GE190.out | refine below_set ?_ GE191.out) | exact HB.out)); (case side2 => exact HR0.out); (case side3 => exact HC0.out); rintro e w81 ⟨g195, rfl, hi, hb, hb2⟩; refine ⟨_, rfl, ?_⟩; have n0_ := Aside0.mk (blk_below (g := gb190) (o := .cells #[.int .i64 0, .int .i64 0, .int .i64 0, .int .i64 0] 25 (0, 0)) (nb BK190) hb2); have n1_ := Aside0.mk (blk_below (g := gb191) (o := .cells #[.int .i64 0, .int .i64 0, .int .i64 0, .int .i64 0] 25 (0, 0)) (nb BK191) hb2); have n2_ := Aside0.mk (hb); have n3_ := Aside0.mk (hi); have n4_ := Aside0.mk (IsS90.ne_blk hi (blk_below (g := gb190) (o := .cells #[.int .i64 0, .int .i64 0, .int .i64 0, .int .i64 0] 25 (0, 0)) (nb BK190) hb2) (by decide)); have n5_ := Aside0.mk (Ne.symm (IsS90.ne_blk hi (blk_below (g := gb190) (o := .cells #[.int .i64 0, .int .i64 0, .int .i64 0, .int .i64 0] 25 (0, 0)) (nb BK190) hb2) (by decide))); have n6_ := Aside0.mk (IsS90.ne_blk hi (blk_below (g := gb191) (o := .cells #[.int .i64 0, .int .i64 0, .int .i64 0, .int .i64 0] 25 (0, 0)) (nb BK191) hb2) (by decide)); have n7_ := Aside0.mk (Ne.symm (IsS90.ne_blk hi (blk_below (g := gb191) (o := .cells #[.int .i64 0, .int .i64 0, .int .i64 0, .int .i64 0] 25 (0, 0)) (nb BK191) hb2) (by decide))); clear BK190 BK191 HB; have BK190 := n0_; have BK191 := n1_; have HB := n2_; have HI195 := n3_; have NB195_190 := n4_; have NB190_195 := n5_; have NB195_191 := n6_; have NB191_195 := n7_; clear n0_ n1_ n2_ n3_ n4_ n5_ n6_ n7_; (try clear hb)) | ((with_reducible refine gate_callee (f := 83) rfl ?_); refine goesM (some 10) rfl rfl Try.func83 (by kernel_rfl) rfl #[.pointer (some ⟨g195, 0, none⟩)] rfl ?_; (with_reducible refine (spec_l2Draw.calls k g195 t192 t193 t194 t196 t197 t198 t199 t200 t201 w _ ?side1 ?side2 A3.out).mono ?_); (case side1 => repeat (first | (with_reducible first | exact HI195.out | apply IsS90.alloc | apply IsS90.drewN | apply IsS90.drew | apply IsS90.set_1 | apply IsS90.set_2 | refine IsS90.far ?_ NB195_190.out _ | refine IsS90.far ?_ NB195_191.out _) | exact HI195.out)); (case side2 => repeat (first | (with_reducible first | exact HB.out | apply below_alloc | apply pw_below_drewN | apply below_drew1 | refine below_set ?_ (IsS90.ge HI195.out) | refine below_set ?_ GE190.out | refine below_set ?_ GE191.out) | exact HB.out)); rintro e w82 ⟨rfl, hi, hb, hk⟩; refine ⟨_, rfl, ?_⟩; have n0_ := Aside0.mk (KeepBut.blk hk (g' := gb190) (o := .cells #[.int .i64 0, .int .i64 0, .int .i64 0, .int .i64 0] 25 (0, 0)) (nb BK190) NB190_195.out (by simp)); have n1_ := Aside0.mk (KeepBut.blk hk (g' := gb191) (o := .cells #[.int .i64 0, .int .i64 0, .int .i64 0, .int .i64 0] 25 (0, 0)) (nb BK191) NB191_195.out (by simp)); have n2_ := Aside0.mk (hb); have n3_ := Aside0.mk (hi); clear BK190 BK191 HB HI195; have BK190 := n0_; have BK191 := n1_; have HB := n2_; have HI195 := n3_; clear n0_ n1_ n2_ n3_; (try clear hb)) | ((with_reducible refine gate_dst (N := 5) rfl ?_); refine box_event ?hg (N := 5) ?hd (cs := #[.int .i64 0, .int .i64 0, .int .i64 0, .int .i64 0]) (t := 25) ?hr ?_; (case hd => rfl); (case hg => rfl); (case hr => first | (go_simp; done) | (go_simp; rfl)); intro gb202 hg w83 hbox hb; have n0_ := nblk BK190 hb; have n1_ := nblk BK191 hb; have n2_ := Aside0.mk (IsS90.below (by repeat (first | (with_reducible first | exact HI195.out | apply IsS90.alloc | apply IsS90.drewN | apply IsS90.drew | apply IsS90.set_1 | apply IsS90.set_2 | refine IsS90.far ?_ NB195_190.out _ | refine IsS90.far ?_ NB195_191.out _) | exact HI195.out)) hb); have n3_ := Aside0.mk (below_step (by repeat (first | (with_reducible first | exact HB.out | apply below_alloc | apply pw_below_drewN | apply below_drew1 | refine below_set ?_ (IsS90.ge HI195.out) | refine below_set ?_ GE190.out | refine below_set ?_ GE191.out) | exact HB.out)) hb); have n4_ := Aside0.mk (hbox); have n5_ := Aside0.mk ((by rw [hg]; exact (below_size (by repeat (first | (with_reducible first | exact HB.out | apply below_alloc | apply pw_below_drewN | apply below_drew1 | refine below_set ?_ (IsS90.ge HI195.out) | refine below_set ?_ GE190.out | refine below_set ?_ GE191.out) | exact HB.out))) : w.heap.size ≤ gb202)); have n6_ := Aside0.mk ((by rw [hg]; exact (below_size (by repeat (first | (with_reducible first | exact HB.out | apply below_alloc | apply pw_below_drewN | apply below_drew1 | refine below_set ?_ (IsS90.ge HI195.out) | refine below_set ?_ GE190.out | refine below_set ?_ GE191.out) | exact HB.out))) : w.heap.size ≤ gb202)); have n7_ := nlt BK190 hg; have n8_ := ngt BK190 hg; have n9_ := nlt BK191 hg; have n10_ := ngt BK191 hg; have n11_ := Aside0.mk ((by rw [hg]; exact Nat.ne_of_lt (IsS90.lt (show IsS90 w _ g195 t192 t200 t201 from by repeat (first | (with_reducible first | exact HI195.out | apply IsS90.alloc | apply IsS90.drewN | apply IsS90.drew | apply IsS90.set_1 | apply IsS90.set_2 | refine IsS90.far ?_ NB195_190.out _ | refine IsS90.far ?_ NB195_191.out _) | exact HI195.out))) : g195 ≠ gb202)); have n12_ := Aside0.mk ((by rw [hg]; exact Nat.ne_of_gt (IsS90.lt (show IsS90 w _ g195 t192 t200 t201 from by repeat (first | (with_reducible first | exact HI195.out | apply IsS90.alloc | apply IsS90.drewN | apply IsS90.drew | apply IsS90.set_1 | apply IsS90.set_2 | refine IsS90.far ?_ NB195_190.out _ | refine IsS90.far ?_ NB195_191.out _) | exact HI195.out))) : gb202 ≠ g195)); clear BK190 BK191 HI195 HB; have BK190 := n0_; have BK191 := n1_; have HI195 := n2_; have HB := n3_; have BK202 := n4_; have GW202 := n5_; have GE202 := n6_; have NB190_202 := n7_; have NB202_190 := n8_; have NB191_202 := n9_; have NB202_191 := n10_; have NB195_202 := n11_; have NB202_195 := n12_; clear n0_ n1_ n2_ n3_ n4_ n5_ n6_ n7_ n8_ n9_ n10_ n11_ n12_; clear hb hbox hg; have hnb84 := NB202_190.out; have hnc84 := NB190_202.out; have hnb85 := NB202_191.out; have hnc85 := NB191_202.out; have hnb86 := NB202_195.out; have hnc86 := NB195_202.out; have hcz87_0 : w83.cell? ⟨gb202, 0, none⟩ = some (.int .i64 0) := (blk_cell BK202.out 0).trans rfl; have hcz87_1 : w83.cell? ⟨gb202, 1, none⟩ = some (.int .i64 0) := (blk_cell BK202.out 1).trans rfl; have hcz87_2 : w83.cell? ⟨gb202, 2, none⟩ = some (.int .i64 0) := (blk_cell BK202.out 2).trans rfl; have hcz87_3 : w83.cell? ⟨gb202, 3, none⟩ = some (.int .i64 0) := (blk_cell BK202.out 3).trans rfl; have hfz87_0 := blk_frozen BK202.out 0; have hfz87_1 := blk_frozen BK202.out 1; have hfz87_2 := blk_frozen BK202.out 2; have hfz87_3 := blk_frozen BK202.out 3) | ((with_reducible refine gate_callee (f := 83) rfl ?_); refine goesM (some 12) rfl rfl Try.func83 (by kernel_rfl) rfl #[.pointer (some ⟨g195, 0, none⟩)] rfl ?_; (with_reducible refine (spec_l2Draw.calls k g195 t192 t200 t201 t203 t204 t205 t206 t207 t208 w _ ?side1 ?side2 A4.out).mono ?_); (case side1 => repeat (first | (with_reducible first | exact HI195.out | apply IsS90.alloc | apply IsS90.drewN | apply IsS90.drew | apply IsS90.set_1 | apply IsS90.set_2 | refine IsS90.far ?_ NB195_190.out _ | refine IsS90.far ?_ NB195_191.out _ | refine IsS90.far ?_ NB195_202.out _) | exact HI195.out)); (case side2 => repeat (first | (with_reducible first | exact HB.out | apply below_alloc | apply pw_below_drewN | apply below_drew1 | refine below_set ?_ (IsS90.ge HI195.out) | refine below_set ?_ GE190.out | refine below_set ?_ GE191.out | refine below_set ?_ GE202.out) | exact HB.out)); rintro e w88 ⟨rfl, hi, hb, hk⟩; refine ⟨_, rfl, ?_⟩; have n0_ := Aside0.mk (KeepBut.blk hk (g' := gb190) (o := .cells #[.int .i64 0, .int .i64 0, .int .i64 0, .int .i64 0] 25 (0, 0)) (by (with_reducible repeat (first | refine blk_drewN ?_ _ | refine blk_drew ?_ | refine blk_alloc ?_ _)); refine blk_far ?_ NB190_202.out _; (with_reducible repeat (first | refine blk_drewN ?_ _ | refine blk_drew ?_ | refine blk_alloc ?_ _)); refine blk_far ?_ NB190_202.out _; (with_reducible repeat (first | refine blk_drewN ?_ _ | refine blk_drew ?_ | refine blk_alloc ?_ _)); refine blk_far ?_ NB190_202.out _; (with_reducible repeat (first | refine blk_drewN ?_ _ | refine blk_drew ?_ | refine blk_alloc ?_ _)); refine blk_far ?_ NB190_202.out _; (with_reducible repeat (first | refine blk_drewN ?_ _ | refine blk_drew ?_ | refine blk_alloc ?_ _)); exact BK190.out) NB190_195.out (by simp)); have n1_ := Aside0.mk (KeepBut.blk hk (g' := gb191) (o := .cells #[.int .i64 0, .int .i64 0, .int .i64 0, .int .i64 0] 25 (0, 0)) (by (with_reducible repeat (first | refine blk_drewN ?_ _ | refine blk_drew ?_ | refine blk_alloc ?_ _)); refine blk_far ?_ NB191_202.out _; (with_reducible repeat (first | refine blk_drewN ?_ _ | refine blk_drew ?_ | refine blk_alloc ?_ _)); refine blk_far ?_ NB191_202.out _; (with_reducible repeat (first | refine blk_drewN ?_ _ | refine blk_drew ?_ | refine blk_alloc ?_ _)); refine blk_far ?_ NB191_202.out _; (with_reducible repeat (first | refine blk_drewN ?_ _ | refine blk_drew ?_ | refine blk_alloc ?_ _)); refine blk_far ?_ NB191_202.out _; (with_reducible repeat (first | refine blk_drewN ?_ _ | refine blk_drew ?_ | refine blk_alloc ?_ _)); exact BK191.out) NB191_195.out (by simp)); have n2_ := Aside0.mk (KeepBut.blk hk (g' := gb202) (o := .cells #[.int .i64 t196, .int .i64 t197, .int .i64 t198, .int .i64 t199] 25 (0, 0)) (by (with_reducible repeat (first | refine blk_drewN ?_ _ | refine blk_drew ?_ | refine blk_alloc ?_ _)); refine blk_put (cs := #[.int .i64 t196, .int .i64 t197, .int .i64 t198, .int .i64 0]) ?_ 3 _ rfl; (with_reducible repeat (first | refine blk_drewN ?_ _ | refine blk_drew ?_ | refine blk_alloc ?_ _)); refine blk_put (cs := #[.int .i64 t196, .int .i64 t197, .int .i64 0, .int .i64 0]) ?_ 2 _ rfl; (with_reducible repeat (first | refine blk_drewN ?_ _ | refine blk_drew ?_ | refine blk_alloc ?_ _)); refine blk_put (cs := #[.int .i64 t196, .int .i64 0, .int .i64 0, .int .i64 0]) ?_ 1 _ rfl; (with_reducible repeat (first | refine blk_drewN ?_ _ | refine blk_drew ?_ | refine blk_alloc ?_ _)); refine blk_put (cs := #[.int .i64 0, .int .i64 0, .int .i64 0, .int .i64 0]) ?_ 0 _ rfl; (with_reducible repeat (first | refine blk_drewN ?_ _ | refine blk_drew ?_ | refine blk_alloc ?_ _)); exact BK202.out) NB202_195.out (by simp)); have n3_ := Aside0.mk (hb); have n4_ := Aside0.mk (hi); clear BK190 BK191 BK202 HB HI195; have BK190 := n0_; have BK191 := n1_; have BK202 := n2_; have HB := n3_; have HI195 := n4_; clear n0_ n1_ n2_ n3_ n4_; (try clear hb)) | ((with_reducible refine gate_dst (N := 6) rfl ?_); refine box_event ?hg (N := 6) ?hd (cs := #[.int .i64 0, .int .i64 0, .int .i64 0, .int .i64 0]) (t := 25) ?hr ?_; (case hd => rfl); (case hg => rfl); (case hr => first | (go_simp; done) | (go_simp; rfl)); intro gb209 hg w89 hbox hb; have n0_ := nblk BK190 hb; have n1_ := nblk BK191 hb; have n2_ := Aside0.mk (IsS90.below (by repeat (first | (with_reducible first | exact HI195.out | apply IsS90.alloc | apply IsS90.drewN | apply IsS90.drew | apply IsS90.set_1 | apply IsS90.set_2 | refine IsS90.far ?_ NB195_190.out _ | refine IsS90.far ?_ NB195_191.out _ | refine IsS90.far ?_ NB195_202.out _) | exact HI195.out)) hb); have n3_ := nblk BK202 hb; have n4_ := Aside0.mk (below_step (by repeat (first | (with_reducible first | exact HB.out | apply below_alloc | apply pw_below_drewN | apply below_drew1 | refine below_set ?_ (IsS90.ge HI195.out) | refine below_set ?_ GE190.out | refine below_set ?_ GE191.out | refine below_set ?_ GE202.out) | exact HB.out)) hb); have n5_ := Aside0.mk (hbox); have n6_ := Aside0.mk ((by rw [hg]; exact (below_size (by repeat (first | (with_reducible first | exact HB.out | apply below_alloc | apply pw_below_drewN | apply below_drew1 | refine below_set ?_ (IsS90.ge HI195.out) | refine below_set ?_ GE190.out | refine below_set ?_ GE191.out | refine below_set ?_ GE202.out) | exact HB.out))) : w.heap.size ≤ gb209)); have n7_ := Aside0.mk ((by rw [hg]; exact (below_size (by repeat (first | (with_reducible first | exact HB.out | apply below_alloc | apply pw_below_drewN | apply below_drew1 | refine below_set ?_ (IsS90.ge HI195.out) | refine below_set ?_ GE190.out | refine below_set ?_ GE191.out | refine below_set ?_ GE202.out) | exact HB.out))) : w.heap.size ≤ gb209)); have n8_ := nlt BK190 hg; have n9_ := ngt BK190 hg; have n10_ := nlt BK191 hg; have n11_ := ngt BK191 hg; have n12_ := nlt BK202 hg; have n13_ := ngt BK202 hg; have n14_ := Aside0.mk ((by rw [hg]; exact Nat.ne_of_lt (IsS90.lt (show IsS90 w _ g195 t192 t207 t208 from by repeat (first | (with_reducible first | exact HI195.out | apply IsS90.alloc | apply IsS90.drewN | apply IsS90.drew | apply IsS90.set_1 | apply IsS90.set_2 | refine IsS90.far ?_ NB195_190.out _ | refine IsS90.far ?_ NB195_191.out _ | refine IsS90.far ?_ NB195_202.out _) | exact HI195.out))) : g195 ≠ gb209)); have n15_ := Aside0.mk ((by rw [hg]; exact Nat.ne_of_gt (IsS90.lt (show IsS90 w _ g195 t192 t207 t208 from by repeat (first | (with_reducible first | exact HI195.out | apply IsS90.alloc | apply IsS90.drewN | apply IsS90.drew | apply IsS90.set_1 | apply IsS90.set_2 | refine IsS90.far ?_ NB195_190.out _ | refine IsS90.far ?_ NB195_191.out _ | refine IsS90.far ?_ NB195_202.out _) | exact HI195.out))) : gb209 ≠ g195)); clear BK190 BK191 HI195 BK202 HB; have BK190 := n0_; have BK191 := n1_; have HI195 := n2_; have BK202 := n3_; have HB := n4_; have BK209 := n5_; have GW209 := n6_; have GE209 := n7_; have NB190_209 := n8_; have NB209_190 := n9_; have NB191_209 := n10_; have NB209_191 := n11_; have NB202_209 := n12_; have NB209_202 := n13_; have NB195_209 := n14_; have NB209_195 := n15_; clear n0_ n1_ n2_ n3_ n4_ n5_ n6_ n7_ n8_ n9_ n10_ n11_ n12_ n13_ n14_ n15_; clear hb hbox hg; have hnb90 := NB209_190.out; have hnc90 := NB190_209.out; have hnb91 := NB209_191.out; have hnc91 := NB191_209.out; have hnb92 := NB209_202.out; have hnc92 := NB202_209.out; have hnb93 := NB209_195.out; have hnc93 := NB195_209.out; have hcz94_0 : w89.cell? ⟨gb209, 0, none⟩ = some (.int .i64 0) := (blk_cell BK209.out 0).trans rfl; have hcz94_1 : w89.cell? ⟨gb209, 1, none⟩ = some (.int .i64 0) := (blk_cell BK209.out 1).trans rfl; have hcz94_2 : w89.cell? ⟨gb209, 2, none⟩ = some (.int .i64 0) := (blk_cell BK209.out 2).trans rfl; have hcz94_3 : w89.cell? ⟨gb209, 3, none⟩ = some (.int .i64 0) := (blk_cell BK209.out 3).trans rfl; have hfz94_0 := blk_frozen BK209.out 0; have hfz94_1 := blk_frozen BK209.out 1; have hfz94_2 := blk_frozen BK209.out 2; have hfz94_3 := blk_frozen BK209.out 3) | ((with_reducible refine gate_callee (f := 75) rfl ?_); refine goesM (some 14) rfl rfl Try.func75 (by kernel_rfl) rfl #[.pointer (some ⟨g195, 0, none⟩), .int .i64 2] rfl ?_; (with_reducible refine (spec_l1Once.calls g195 t192 t207 t208 2 true t211 t212 w _ ?side1 ?side2 A5.out).mono ?_); (case side1 => repeat (first | (with_reducible first | exact HI195.out | apply IsS90.alloc | apply IsS90.drewN | apply IsS90.drew | apply IsS90.set_1 | apply IsS90.set_2 | refine IsS90.far ?_ NB195_190.out _ | refine IsS90.far ?_ NB195_191.out _ | refine IsS90.far ?_ NB195_202.out _ | refine IsS90.far ?_ NB195_209.out _) | exact HI195.out)); (case side2 => repeat (first | (with_reducible first | exact HB.out | apply below_alloc | apply pw_below_drewN | apply below_drew1 | refine below_set ?_ (IsS90.ge HI195.out) | refine below_set ?_ GE190.out | refine below_set ?_ GE191.out | refine below_set ?_ GE202.out | refine below_set ?_ GE209.out) | exact HB.out)); rintro e w95 ⟨rfl, hi, hb, hk⟩; refine ⟨_, rfl, ?_⟩; have n0_ := Aside0.mk (KeepBut.blk hk (g' := gb190) (o := .cells #[.int .i64 0, .int .i64 0, .int .i64 0, .int .i64 0] 25 (0, 0)) (by (with_reducible repeat (first | refine blk_drewN ?_ _ | refine blk_drew ?_ | refine blk_alloc ?_ _)); refine blk_far ?_ NB190_209.out _; (with_reducible repeat (first | refine blk_drewN ?_ _ | refine blk_drew ?_ | refine blk_alloc ?_ _)); refine blk_far ?_ NB190_209.out _; (with_reducible repeat (first | refine blk_drewN ?_ _ | refine blk_drew ?_ | refine blk_alloc ?_ _)); refine blk_far ?_ NB190_209.out _; (with_reducible repeat (first | refine blk_drewN ?_ _ | refine blk_drew ?_ | refine blk_alloc ?_ _)); refine blk_far ?_ NB190_209.out _; (with_reducible repeat (first | refine blk_drewN ?_ _ | refine blk_drew ?_ | refine blk_alloc ?_ _)); exact BK190.out) NB190_195.out (by simp)); have n1_ := Aside0.mk (KeepBut.blk hk (g' := gb191) (o := .cells #[.int .i64 0, .int .i64 0, .int .i64 0, .int .i64 0] 25 (0, 0)) (by (with_reducible repeat (first | refine blk_drewN ?_ _ | refine blk_drew ?_ | refine blk_alloc ?_ _)); refine blk_far ?_ NB191_209.out _; (with_reducible repeat (first | refine blk_drewN ?_ _ | refine blk_drew ?_ | refine blk_alloc ?_ _)); refine blk_far ?_ NB191_209.out _; (with_reducible repeat (first | refine blk_drewN ?_ _ | refine blk_drew ?_ | refine blk_alloc ?_ _)); refine blk_far ?_ NB191_209.out _; (with_reducible repeat (first | refine blk_drewN ?_ _ | refine blk_drew ?_ | refine blk_alloc ?_ _)); refine blk_far ?_ NB191_209.out _; (with_reducible repeat (first | refine blk_drewN ?_ _ | refine blk_drew ?_ | refine blk_alloc ?_ _)); exact BK191.out) NB191_195.out (by simp)); have n2_ := Aside0.mk (KeepBut.blk hk (g' := gb202) (o := .cells #[.int .i64 t196, .int .i64 t197, .int .i64 t198, .int .i64 t199] 25 (0, 0)) (by (with_reducible repeat (first | refine blk_drewN ?_ _ | refine blk_drew ?_ | refine blk_alloc ?_ _)); refine blk_far ?_ NB202_209.out _; (with_reducible repeat (first | refine blk_drewN ?_ _ | refine blk_drew ?_ | refine blk_alloc ?_ _)); refine blk_far ?_ NB202_209.out _; (with_reducible repeat (first | refine blk_drewN ?_ _ | refine blk_drew ?_ | refine blk_alloc ?_ _)); refine blk_far ?_ NB202_209.out _; (with_reducible repeat (first | refine blk_drewN ?_ _ | refine blk_drew ?_ | refine blk_alloc ?_ _)); refine blk_far ?_ NB202_209.out _; (with_reducible repeat (first | refine blk_drewN ?_ _ | refine blk_drew ?_ | refine blk_alloc ?_ _)); exact BK202.out) NB202_195.out (by simp)); have n3_ := Aside0.mk (KeepBut.blk hk (g' := gb209) (o := .cells #[.int .i64 t203, .int .i64 t204, .int .i64 t205, .int .i64 t206] 25 (0, 0)) (by (with_reducible repeat (first | refine blk_drewN ?_ _ | refine blk_drew ?_ | refine blk_alloc ?_ _)); refine blk_put (cs := #[.int .i64 t203, .int .i64 t204, .int .i64 t205, .int .i64 0]) ?_ 3 _ rfl; (with_reducible repeat (first | refine blk_drewN ?_ _ | refine blk_drew ?_ | refine blk_alloc ?_ _)); refine blk_put (cs := #[.int .i64 t203, .int .i64 t204, .int .i64 0, .int .i64 0]) ?_ 2 _ rfl; (with_reducible repeat (first | refine blk_drewN ?_ _ | refine blk_drew ?_ | refine blk_alloc ?_ _)); refine blk_put (cs := #[.int .i64 t203, .int .i64 0, .int .i64 0, .int .i64 0]) ?_ 1 _ rfl; (with_reducible repeat (first | refine blk_drewN ?_ _ | refine blk_drew ?_ | refine blk_alloc ?_ _)); refine blk_put (cs := #[.int .i64 0, .int .i64 0, .int .i64 0, .int .i64 0]) ?_ 0 _ rfl; (with_reducible repeat (first | refine blk_drewN ?_ _ | refine blk_drew ?_ | refine blk_alloc ?_ _)); exact BK209.out) NB209_195.out (by simp)); have n4_ := Aside0.mk (hb); have n5_ := Aside0.mk (hi); clear BK190 BK191 BK202 BK209 HB HI195; have BK190 := n0_; have BK191 := n1_; have BK202 := n2_; have BK209 := n3_; have HB := n4_; have HI195 := n5_; clear n0_ n1_ n2_ n3_ n4_ n5_; (try clear hb); have hcz96_0 : w95.cell? ⟨gb202, 0, none⟩ = some (.int .i64 t196) := (blk_cell BK202.out 0).trans rfl; have hcz96_1 : w95.cell? ⟨gb202, 1, none⟩ = some (.int .i64 t197) := (blk_cell BK202.out 1).trans rfl; have hcz96_2 : w95.cell? ⟨gb202, 2, none⟩ = some (.int .i64 t198) := (blk_cell BK202.out 2).trans rfl; have hcz96_3 : w95.cell? ⟨gb202, 3, none⟩ = some (.int .i64 t199) := (blk_cell BK202.out 3).trans rfl; have hfz96_0 := blk_frozen BK202.out 0; have hfz96_1 := blk_frozen BK202.out 1; have hfz96_2 := blk_frozen BK202.out 2; have hfz96_3 := blk_frozen BK202.out 3; have hcz97_0 : w95.cell? ⟨gb209, 0, none⟩ = some (.int .i64 t203) := (blk_cell BK209.out 0).trans rfl; have hcz97_1 : w95.cell? ⟨gb209, 1, none⟩ = some (.int .i64 t204) := (blk_cell BK209.out 1).trans rfl; have hcz97_2 : w95.cell? ⟨gb209, 2, none⟩ = some (.int .i64 t205) := (blk_cell BK209.out 2).trans rfl; have hcz97_3 : w95.cell? ⟨gb209, 3, none⟩ = some (.int .i64 t206) := (blk_cell BK209.out 3).trans rfl; have hfz97_0 := blk_frozen BK209.out 0; have hfz97_1 := blk_frozen BK209.out 1; have hfz97_2 := blk_frozen BK209.out 2; have hfz97_3 := blk_frozen BK209.out 3))
   have n0_ : Aside0 (((((w95.setCell ⟨gb209, 0, none⟩ (.int .i64 t196)).setCell ⟨gb209, 1, none⟩ (.int .i64 t197)).setCell ⟨gb209, 2, none⟩ (.int .i64 t198)).setCell ⟨gb209, 3, none⟩ (.int .i64 t199)).heap[gb190]? = some (.cells #[.int .i64 0, .int .i64 0, .int .i64 0, .int .i64 0] 25 (0, 0))) := ⟨by (with_reducible repeat (first | refine blk_drewN ?_ _ | refine blk_drew ?_ | refine blk_alloc ?_ _)); refine blk_far ?_ NB190_209.out _; (with_reducible repeat (first | refine blk_drewN ?_ _ | refine blk_drew ?_ | refine blk_alloc ?_ _)); refine blk_far ?_ NB190_209.out _; (with_reducible repeat (first | refine blk_drewN ?_ _ | refine blk_drew ?_ | refine blk_alloc ?_ _)); refine blk_far ?_ NB190_209.out _; (with_reducible repeat (first | refine blk_drewN ?_ _ | refine blk_drew ?_ | refine blk_alloc ?_ _)); refine blk_far ?_ NB190_209.out _; (with_reducible repeat (first | refine blk_drewN ?_ _ | refine blk_drew ?_ | refine blk_alloc ?_ _)); exact BK190.out⟩
   have n1_ : Aside0 (((((w95.setCell ⟨gb209, 0, none⟩ (.int .i64 t196)).setCell ⟨gb209, 1, none⟩ (.int .i64 t197)).setCell ⟨gb209, 2, none⟩ (.int .i64 t198)).setCell ⟨gb209, 3, none⟩ (.int .i64 t199)).heap[gb191]? = some (.cells #[.int .i64 0, .int .i64 0, .int .i64 0, .int .i64 0] 25 (0, 0))) := ⟨by (with_reducible repeat (first | refine blk_drewN ?_ _ | refine blk_drew ?_ | refine blk_alloc ?_ _)); refine blk_far ?_ NB191_209.out _; (with_reducible repeat (first | refine blk_drewN ?_ _ | refine blk_drew ?_ | refine blk_alloc ?_ _)); refine blk_far ?_ NB191_209.out _; (with_reducible repeat (first | refine blk_drewN ?_ _ | refine blk_drew ?_ | refine blk_alloc ?_ _)); refine blk_far ?_ NB191_209.out _; (with_reducible repeat (first | refine blk_drewN ?_ _ | refine blk_drew ?_ | refine blk_alloc ?_ _)); refine blk_far ?_ NB191_209.out _; (with_reducible repeat (first | refine blk_drewN ?_ _ | refine blk_drew ?_ | refine blk_alloc ?_ _)); exact BK191.out⟩
   have n2_ : Aside0 (((((w95.setCell ⟨gb209, 0, none⟩ (.int .i64 t196)).setCell ⟨gb209, 1, none⟩ (.int .i64 t197)).setCell ⟨gb209, 2, none⟩ (.int .i64 t198)).setCell ⟨gb209, 3, none⟩ (.int .i64 t199)).heap[gb202]? = some (.cells #[.int .i64 t196, .int .i64 t197, .int .i64 t198, .int .i64 t199] 25 (0, 0))) := ⟨by (with_reducible repeat (first | refine blk_drewN ?_ _ | refine blk_drew ?_ | refine blk_alloc ?_ _)); refine blk_far ?_ NB202_209.out _; (with_reducible repeat (first | refine blk_drewN ?_ _ | refine blk_drew ?_ | refine blk_alloc ?_ _)); refine blk_far ?_ NB202_209.out _; (with_reducible repeat (first | refine blk_drewN ?_ _ | refine blk_drew ?_ | refine blk_alloc ?_ _)); refine blk_far ?_ NB202_209.out _; (with_reducible repeat (first | refine blk_drewN ?_ _ | refine blk_drew ?_ | refine blk_alloc ?_ _)); refine blk_far ?_ NB202_209.out _; (with_reducible repeat (first | refine blk_drewN ?_ _ | refine blk_drew ?_ | refine blk_alloc ?_ _)); exact BK202.out⟩
   have n3_ : Aside0 (((((w95.setCell ⟨gb209, 0, none⟩ (.int .i64 t196)).setCell ⟨gb209, 1, none⟩ (.int .i64 t197)).setCell ⟨gb209, 2, none⟩ (.int .i64 t198)).setCell ⟨gb209, 3, none⟩ (.int .i64 t199)).heap[gb209]? = some (.cells #[.int .i64 t196, .int .i64 t197, .int .i64 t198, .int .i64 t199] 25 (0, 0))) := ⟨by (with_reducible repeat (first | refine blk_drewN ?_ _ | refine blk_drew ?_ | refine blk_alloc ?_ _)); refine blk_put (cs := #[.int .i64 t196, .int .i64 t197, .int .i64 t198, .int .i64 t206]) ?_ 3 _ rfl; (with_reducible repeat (first | refine blk_drewN ?_ _ | refine blk_drew ?_ | refine blk_alloc ?_ _)); refine blk_put (cs := #[.int .i64 t196, .int .i64 t197, .int .i64 t205, .int .i64 t206]) ?_ 2 _ rfl; (with_reducible repeat (first | refine blk_drewN ?_ _ | refine blk_drew ?_ | refine blk_alloc ?_ _)); refine blk_put (cs := #[.int .i64 t196, .int .i64 t204, .int .i64 t205, .int .i64 t206]) ?_ 1 _ rfl; (with_reducible repeat (first | refine blk_drewN ?_ _ | refine blk_drew ?_ | refine blk_alloc ?_ _)); refine blk_put (cs := #[.int .i64 t203, .int .i64 t204, .int .i64 t205, .int .i64 t206]) ?_ 0 _ rfl; (with_reducible repeat (first | refine blk_drewN ?_ _ | refine blk_drew ?_ | refine blk_alloc ?_ _)); exact BK209.out⟩
   have n4_ : Aside0 (IsS90 w ((((w95.setCell ⟨gb209, 0, none⟩ (.int .i64 t196)).setCell ⟨gb209, 1, none⟩ (.int .i64 t197)).setCell ⟨gb209, 2, none⟩ (.int .i64 t198)).setCell ⟨gb209, 3, none⟩ (.int .i64 t199)) g195 t192 t211 t212) := ⟨by repeat (first | (with_reducible first | exact HI195.out | apply IsS90.alloc | apply IsS90.drewN | apply IsS90.drew | apply IsS90.set_1 | apply IsS90.set_2 | refine IsS90.far ?_ NB195_190.out _ | refine IsS90.far ?_ NB195_191.out _ | refine IsS90.far ?_ NB195_202.out _ | refine IsS90.far ?_ NB195_209.out _) | exact HI195.out)⟩
   have n5_ : Aside0 (Below w.heap.size w ((((w95.setCell ⟨gb209, 0, none⟩ (.int .i64 t196)).setCell ⟨gb209, 1, none⟩ (.int .i64 t197)).setCell ⟨gb209, 2, none⟩ (.int .i64 t198)).setCell ⟨gb209, 3, none⟩ (.int .i64 t199))) := ⟨by repeat (first | (with_reducible first | exact HB.out | apply below_alloc | apply pw_below_drewN | apply below_drew1 | refine below_set ?_ (IsS90.ge HI195.out) | refine below_set ?_ GE190.out | refine below_set ?_ GE191.out | refine below_set ?_ GE202.out | refine below_set ?_ GE209.out) | exact HB.out)⟩
   (try clear BK190)
   (try clear BK191)
   (try clear BK202)
   (try clear BK209)
   (try clear HI195)
   (try clear HB)
   generalize ((((w95.setCell ⟨gb209, 0, none⟩ (.int .i64 t196)).setCell ⟨gb209, 1, none⟩ (.int .i64 t197)).setCell ⟨gb209, 2, none⟩ (.int .i64 t198)).setCell ⟨gb209, 3, none⟩ (.int .i64 t199)) = w98 at n0_ n1_ n2_ n3_ n4_ n5_ ⊢
   have BK190 := n0_
   have BK191 := n1_
   have BK202 := n2_
   have BK209 := n3_
   have HI195 := n4_
   have HB := n5_
   clear n0_ n1_ n2_ n3_ n4_ n5_
   have n0_ := Aside0.mk (blk_drew BK190.out)
   have n1_ := Aside0.mk (blk_drew BK191.out)
   have n2_ := Aside0.mk (blk_drew BK202.out)
   have n3_ := Aside0.mk (blk_drew BK209.out)
   have n4_ := Aside0.mk (IsS90.drew HI195.out)
   have n5_ := Aside0.mk (below_drew1 HB.out)
   clear BK190 BK191 BK202 BK209 HI195 HB
   have BK190 := n0_
   have BK191 := n1_
   have BK202 := n2_
   have BK209 := n3_
   have HI195 := n4_
   have HB := n5_
   clear n0_ n1_ n2_ n3_ n4_ n5_
   refine start_ (n := 7) (S := fun w' => w'.cell? ⟨gb202, 0, none⟩ = some (.int .i64 t196) ∧ w'.cell? ⟨gb202, 1, none⟩ = some (.int .i64 t197) ∧ w'.cell? ⟨gb202, 2, none⟩ = some (.int .i64 t198) ∧ w'.cell? ⟨gb202, 3, none⟩ = some (.int .i64 t199)) (ds := []) #[false, false, false, false, false, false, false] (by kernel_rfl) rfl rfl (c4e BK202) (fun hHeld => ?_)
   generalize w98.drew = w99 at BK190 BK191 BK202 BK209 HI195 HB hHeld ⊢
   refine pure_ (i := 0) (N := some 16) (v := ?_) (a' := ?_) #[true, false, false, false, false, false, false] rfl rfl (by kernel_rfl) (fun _ _ _ h => h) (Or.inl ⟨by rfl, ?_⟩) ?_ ?_
   rotate_left
   ·intro w'
    go_simp
    with_reducible rfl
   rotate_left
   ·simp only [Act.put, List.setIfInBounds_toArray, List.set_cons_zero, List.set_cons_succ, i64_w, i32_w]
    rfl
   refine pure_ (i := 2) (N := some 18) (v := ?_) (a' := ?_) #[true, false, true, false, false, false, false] rfl rfl (by kernel_rfl) (fun _ _ _ h => h) (Or.inl ⟨by rfl, ?_⟩) ?_ ?_
   rotate_left
   ·intro w'
    go_simp
    with_reducible rfl
   rotate_left
   ·simp only [Act.put, List.setIfInBounds_toArray, List.set_cons_zero, List.set_cons_succ, i64_w, i32_w]
    rfl
   refine take_ (i := 1) (N := some 17) (v := ?_) (a' := ?_) #[true, true, true, false, false, false, false] rfl rfl (by kernel_rfl) (fun _ _ _ h => h) (Or.inl ⟨by rfl, ?_⟩) hHeld ?_ ?_
   rotate_left
   ·rintro w' ⟨s0, s1, s2, s3⟩
    go_simp
    with_reducible rfl
   rotate_left
   ·simp only [Act.put, List.setIfInBounds_toArray, List.set_cons_zero, List.set_cons_succ, i64_w, i32_w]
    rfl
   refine one_ (i := 3) (N := some 19) #[true, true, true, true, false, false, false] rfl rfl (by kernel_rfl) (by decide) (fun K hK => ?_)
   refine goesR Try.func86 (by kernel_rfl) rfl #[.pointer (some ⟨g195, 0, none⟩), .int .i64 64] (by rfl) rfl rfl ?_
   with_reducible refine (spec_l1Below.calls g195 t192 t211 t212 64 t213 t214 t215 w _ ?side1 ?side2 A7.out).mono ?_
   (case side1 => repeat (first | (with_reducible first | exact HI195.out | apply IsS90.alloc | apply IsS90.drewN | apply IsS90.drew | apply IsS90.set_1 | apply IsS90.set_2 | refine IsS90.far ?_ NB195_190.out _ | refine IsS90.far ?_ NB195_191.out _ | refine IsS90.far ?_ NB195_202.out _ | refine IsS90.far ?_ NB195_209.out _) | exact HI195.out))
   (case side2 => repeat (first | (with_reducible first | exact HB.out | apply below_alloc | apply pw_below_drewN | apply below_drew1 | refine below_set ?_ (IsS90.ge HI195.out) | refine below_set ?_ GE190.out | refine below_set ?_ GE191.out | refine below_set ?_ GE202.out | refine below_set ?_ GE209.out) | exact HB.out))
   rintro e w100 ⟨rfl, hi, hb, hk⟩
   refine ⟨_, rfl, ?_⟩
   have n0_ := Aside0.mk (KeepBut.blk hk (g' := gb190) (o := .cells #[.int .i64 0, .int .i64 0, .int .i64 0, .int .i64 0] 25 (0, 0)) (nb BK190) NB190_195.out (by simp))
   have n1_ := Aside0.mk (KeepBut.blk hk (g' := gb191) (o := .cells #[.int .i64 0, .int .i64 0, .int .i64 0, .int .i64 0] 25 (0, 0)) (nb BK191) NB191_195.out (by simp))
   have n2_ := Aside0.mk (KeepBut.blk hk (g' := gb202) (o := .cells #[.int .i64 t196, .int .i64 t197, .int .i64 t198, .int .i64 t199] 25 (0, 0)) (nb BK202) NB202_195.out (by simp))
   have n3_ := Aside0.mk (KeepBut.blk hk (g' := gb209) (o := .cells #[.int .i64 t196, .int .i64 t197, .int .i64 t198, .int .i64 t199] 25 (0, 0)) (nb BK209) NB209_195.out (by simp))
   have n4_ := Aside0.mk (hb)
   have n5_ := Aside0.mk (hi)
   clear BK190 BK191 BK202 BK209 HB HI195
   have BK190 := n0_
   have BK191 := n1_
   have BK202 := n2_
   have BK209 := n3_
   have HB := n4_
   have HI195 := n5_
   clear n0_ n1_ n2_ n3_ n4_ n5_
   (try clear hb)
   refine hK.out _ _ (c4e BK202) (fun hHeld => ?_)
   clear hK K
   refine norm_ (a' := ?_) ?_ ?_
   rotate_left
   ·show Act.put _ (some 19) _ = _
    simp only [Act.put, List.setIfInBounds_toArray, List.set_cons_zero, List.set_cons_succ, i64_w, i32_w]
    rfl
   refine pure_ (i := 4) (N := some 20) (v := ?_) (a' := ?_) #[true, true, true, true, true, false, false] rfl rfl (by kernel_rfl) (fun _ _ _ h => h) (Or.inl ⟨by rfl, ?_⟩) ?_ ?_
   rotate_left
   ·intro w'
    go_simp
    with_reducible rfl
   rotate_left
   ·simp only [Act.put, List.setIfInBounds_toArray, List.set_cons_zero, List.set_cons_succ, i64_w, i32_w]
    rfl
   refine pure_ (i := 5) (N := some 21) (v := ?_) (a' := ?_) #[true, true, true, true, true, true, false] rfl rfl (by kernel_rfl) (fun _ _ _ h => h) (Or.inl ⟨by rfl, ?_⟩) ?_ ?_
   rotate_left
   ·intro w'
    go_simp
    with_reducible rfl
   rotate_left
   ·simp only [Act.put, List.setIfInBounds_toArray, List.set_cons_zero, List.set_cons_succ, i64_w, i32_w]
    rfl
   refine one_ (i := 6) (N := none) #[true, true, true, true, true, true, true] rfl rfl (by kernel_rfl) (by decide) (fun K hK => ?_)
   have hs101 : w100.cell? ⟨gb209, 2, none⟩ = some (.int .i64 t198) := (blk_cell BK209.out 2).trans rfl
   have hfs101 := blk_frozen BK209.out 2
   have hns101_0 := NB190_209.out
   have hns101_1 := NB191_209.out
   have hns101_2 := NB202_209.out
   have hms101_0 := NB209_190.out
   have hms101_1 := NB209_191.out
   have hms101_2 := NB209_202.out
   refine skip_ (w1 := ?_) (by rfl) rfl ?_ ?_
   rotate_left
   ·go_simp
    rfl
   refine hK.out _ _ ⟨(g1 NB202_209.out hHeld.1), (g1 NB202_209.out hHeld.2.1), (g1 NB202_209.out hHeld.2.2.1), (g1 NB202_209.out hHeld.2.2.2)⟩ (fun hHeld => ?_)
   clear hK K
   refine done_ (by kernel_rfl) ?_
   have hcz102_0 : w100.cell? ⟨gb202, 0, none⟩ = some (.int .i64 t196) := (blk_cell BK202.out 0).trans rfl
   have hcz102_1 : w100.cell? ⟨gb202, 1, none⟩ = some (.int .i64 t197) := (blk_cell BK202.out 1).trans rfl
   have hcz102_2 : w100.cell? ⟨gb202, 2, none⟩ = some (.int .i64 t198) := (blk_cell BK202.out 2).trans rfl
   have hcz102_3 : w100.cell? ⟨gb202, 3, none⟩ = some (.int .i64 t199) := (blk_cell BK202.out 3).trans rfl
   have hfz102_0 := blk_frozen BK202.out 0
   have hfz102_1 := blk_frozen BK202.out 1
   have hfz102_2 := blk_frozen BK202.out 2
   have hfz102_3 := blk_frozen BK202.out 3
   try go_wp2
   have n0_ : Aside0 ((w100.setCell ⟨gb209, 2, none⟩ (.int .i64 (Go.bits .and .i64 t198 t213))).heap[gb190]? = some (.cells #[.int .i64 0, .int .i64 0, .int .i64 0, .int .i64 0] 25 (0, 0))) := ⟨by (with_reducible repeat (first | refine blk_drewN ?_ _ | refine blk_drew ?_ | refine blk_alloc ?_ _)); refine blk_far ?_ NB190_209.out _; (with_reducible repeat (first | refine blk_drewN ?_ _ | refine blk_drew ?_ | refine blk_alloc ?_ _)); exact BK190.out⟩
   have n1_ : Aside0 ((w100.setCell ⟨gb209, 2, none⟩ (.int .i64 (Go.bits .and .i64 t198 t213))).heap[gb191]? = some (.cells #[.int .i64 0, .int .i64 0, .int .i64 0, .int .i64 0] 25 (0, 0))) := ⟨by (with_reducible repeat (first | refine blk_drewN ?_ _ | refine blk_drew ?_ | refine blk_alloc ?_ _)); refine blk_far ?_ NB191_209.out _; (with_reducible repeat (first | refine blk_drewN ?_ _ | refine blk_drew ?_ | refine blk_alloc ?_ _)); exact BK191.out⟩
   have n2_ : Aside0 ((w100.setCell ⟨gb209, 2, none⟩ (.int .i64 (Go.bits .and .i64 t198 t213))).heap[gb202]? = some (.cells #[.int .i64 t196, .int .i64 t197, .int .i64 t198, .int .i64 t199] 25 (0, 0))) := ⟨by (with_reducible repeat (first | refine blk_drewN ?_ _ | refine blk_drew ?_ | refine blk_alloc ?_ _)); refine blk_far ?_ NB202_209.out _; (with_reducible repeat (first | refine blk_drewN ?_ _ | refine blk_drew ?_ | refine blk_alloc ?_ _)); exact BK202.out⟩
   have n3_ : Aside0 ((w100.setCell ⟨gb209, 2, none⟩ (.int .i64 (Go.bits .and .i64 t198 t213))).heap[gb209]? = some (.cells #[.int .i64 t196, .int .i64 t197, .int .i64 (Go.bits .and .i64 t198 t213), .int .i64 t199] 25 (0, 0))) := ⟨by (with_reducible repeat (first | refine blk_drewN ?_ _ | refine blk_drew ?_ | refine blk_alloc ?_ _)); refine blk_put (cs := #[.int .i64 t196, .int .i64 t197, .int .i64 t198, .int .i64 t199]) ?_ 2 _ rfl; (with_reducible repeat (first | refine blk_drewN ?_ _ | refine blk_drew ?_ | refine blk_alloc ?_ _)); exact BK209.out⟩
   have n4_ : Aside0 (IsS90 w (w100.setCell ⟨gb209, 2, none⟩ (.int .i64 (Go.bits .and .i64 t198 t213))) g195 t192 t214 t215) := ⟨by repeat (first | (with_reducible first | exact HI195.out | apply IsS90.alloc | apply IsS90.drewN | apply IsS90.drew | apply IsS90.set_1 | apply IsS90.set_2 | refine IsS90.far ?_ NB195_190.out _ | refine IsS90.far ?_ NB195_191.out _ | refine IsS90.far ?_ NB195_202.out _ | refine IsS90.far ?_ NB195_209.out _) | exact HI195.out)⟩
   have n5_ : Aside0 (Below w.heap.size w (w100.setCell ⟨gb209, 2, none⟩ (.int .i64 (Go.bits .and .i64 t198 t213)))) := ⟨by repeat (first | (with_reducible first | exact HB.out | apply below_alloc | apply pw_below_drewN | apply below_drew1 | refine below_set ?_ (IsS90.ge HI195.out) | refine below_set ?_ GE190.out | refine below_set ?_ GE191.out | refine below_set ?_ GE202.out | refine below_set ?_ GE209.out) | exact HB.out)⟩
   (try clear BK190)
   (try clear BK191)
   (try clear BK202)
   (try clear BK209)
   (try clear HI195)
   (try clear HB)
   generalize (w100.setCell ⟨gb209, 2, none⟩ (.int .i64 (Go.bits .and .i64 t198 t213))) = w103 at n0_ n1_ n2_ n3_ n4_ n5_ ⊢
   have BK190 := n0_
   have BK191 := n1_
   have BK202 := n2_
   have BK209 := n3_
   have HI195 := n4_
   have HB := n5_
   clear n0_ n1_ n2_ n3_ n4_ n5_
   have n0_ := Aside0.mk (blk_drew BK190.out)
   have n1_ := Aside0.mk (blk_drew BK191.out)
   have n2_ := Aside0.mk (blk_drew BK202.out)
   have n3_ := Aside0.mk (blk_drew BK209.out)
   have n4_ := Aside0.mk (IsS90.drew HI195.out)
   have n5_ := Aside0.mk (below_drew1 HB.out)
   clear BK190 BK191 BK202 BK209 HI195 HB
   have BK190 := n0_
   have BK191 := n1_
   have BK202 := n2_
   have BK209 := n3_
   have HI195 := n4_
   have HB := n5_
   clear n0_ n1_ n2_ n3_ n4_ n5_
   refine start_ (n := 4) (S := fun w' => w'.cell? ⟨gb202, 0, none⟩ = some (.int .i64 t196) ∧ w'.cell? ⟨gb202, 1, none⟩ = some (.int .i64 t197) ∧ w'.cell? ⟨gb202, 2, none⟩ = some (.int .i64 t198) ∧ w'.cell? ⟨gb202, 3, none⟩ = some (.int .i64 t199) ∧ w'.cell? ⟨gb209, 0, none⟩ = some (.int .i64 t196) ∧ w'.cell? ⟨gb209, 1, none⟩ = some (.int .i64 t197) ∧ w'.cell? ⟨gb209, 2, none⟩ = some (.int .i64 (Go.bits .and .i64 t198 t213)) ∧ w'.cell? ⟨gb209, 3, none⟩ = some (.int .i64 t199)) (ds := []) #[false, false, false, false] (by kernel_rfl) rfl rfl (c4 BK202 (c4e BK209)) (fun hHeld => ?_)
   generalize w103.drew = w104 at BK190 BK191 BK202 BK209 HI195 HB hHeld ⊢
   refine take_ (i := 0) (N := some 37) (v := ?_) (a' := ?_) #[true, false, false, false] rfl rfl (by kernel_rfl) (fun _ _ _ h => h) (Or.inl ⟨by rfl, ?_⟩) hHeld ?_ ?_
   rotate_left
   ·rintro w' ⟨s0, s1, s2, s3, s4, s5, s6, s7⟩
    go_simp
    with_reducible rfl
   rotate_left
   ·simp only [Act.put, List.setIfInBounds_toArray, List.set_cons_zero, List.set_cons_succ, i64_w, i32_w]
    rfl
   refine take_ (i := 1) (N := some 38) (v := ?_) (a' := ?_) #[true, true, false, false] rfl rfl (by kernel_rfl) (fun _ _ _ h => h) (Or.inl ⟨by rfl, ?_⟩) hHeld ?_ ?_
   rotate_left
   ·rintro w' ⟨s0, s1, s2, s3, s4, s5, s6, s7⟩
    go_simp
    with_reducible rfl
   rotate_left
   ·simp only [Act.put, List.setIfInBounds_toArray, List.set_cons_zero, List.set_cons_succ, i64_w, i32_w]
    rfl
   refine one_ (i := 2) (N := none) #[true, true, true, false] rfl rfl (by kernel_rfl) (by decide) (fun K hK => ?_)
   have hs105 : w104.cell? ⟨gb190, 0, none⟩ = some (.int .i64 0) := (blk_cell BK190.out 0).trans rfl
   have hfs105 := blk_frozen BK190.out 0
   have hns105_1 := NB191_190.out
   have hns105_2 := NB202_190.out
   have hns105_3 := NB209_190.out
   have hms105_1 := NB190_191.out
   have hms105_2 := NB190_202.out
   have hms105_3 := NB190_209.out
   have hs106 : w104.cell? ⟨gb190, 1, none⟩ = some (.int .i64 0) := (blk_cell BK190.out 1).trans rfl
   have hfs106 := blk_frozen BK190.out 1
   have hns106_1 := NB191_190.out
   have hns106_2 := NB202_190.out
   have hns106_3 := NB209_190.out
   have hms106_1 := NB190_191.out
   have hms106_2 := NB190_202.out
   have hms106_3 := NB190_209.out
   have hs107 : w104.cell? ⟨gb190, 2, none⟩ = some (.int .i64 0) := (blk_cell BK190.out 2).trans rfl
   have hfs107 := blk_frozen BK190.out 2
   have hns107_1 := NB191_190.out
   have hns107_2 := NB202_190.out
   have hns107_3 := NB209_190.out
   have hms107_1 := NB190_191.out
   have hms107_2 := NB190_202.out
   have hms107_3 := NB190_209.out
   have hs108 : w104.cell? ⟨gb190, 3, none⟩ = some (.int .i64 0) := (blk_cell BK190.out 3).trans rfl
   have hfs108 := blk_frozen BK190.out 3
   have hns108_1 := NB191_190.out
   have hns108_2 := NB202_190.out
   have hns108_3 := NB209_190.out
   have hms108_1 := NB190_191.out
   have hms108_2 := NB190_202.out
   have hms108_3 := NB190_209.out
   refine skip_ (w1 := ?_) (by rfl) rfl ?_ ?_
   rotate_left
   ·go_simp
    rfl
   refine hK.out _ _ ⟨(g4 NB202_190.out hHeld.1), (g4 NB202_190.out hHeld.2.1), (g4 NB202_190.out hHeld.2.2.1), (g4 NB202_190.out hHeld.2.2.2.1), (g4 NB209_190.out hHeld.2.2.2.2.1), (g4 NB209_190.out hHeld.2.2.2.2.2.1), (g4 NB209_190.out hHeld.2.2.2.2.2.2.1), (g4 NB209_190.out hHeld.2.2.2.2.2.2.2)⟩ (fun hHeld => ?_)
   clear hK K
   refine one_ (i := 3) (N := none) #[true, true, true, true] rfl rfl (by kernel_rfl) (by decide) (fun K hK => ?_)
   have hs109 : w104.cell? ⟨gb191, 0, none⟩ = some (.int .i64 0) := (blk_cell BK191.out 0).trans rfl
   have hfs109 := blk_frozen BK191.out 0
   have hns109_0 := NB190_191.out
   have hns109_2 := NB202_191.out
   have hns109_3 := NB209_191.out
   have hms109_0 := NB191_190.out
   have hms109_2 := NB191_202.out
   have hms109_3 := NB191_209.out
   have hs110 : w104.cell? ⟨gb191, 1, none⟩ = some (.int .i64 0) := (blk_cell BK191.out 1).trans rfl
   have hfs110 := blk_frozen BK191.out 1
   have hns110_0 := NB190_191.out
   have hns110_2 := NB202_191.out
   have hns110_3 := NB209_191.out
   have hms110_0 := NB191_190.out
   have hms110_2 := NB191_202.out
   have hms110_3 := NB191_209.out
   have hs111 : w104.cell? ⟨gb191, 2, none⟩ = some (.int .i64 0) := (blk_cell BK191.out 2).trans rfl
   have hfs111 := blk_frozen BK191.out 2
   have hns111_0 := NB190_191.out
   have hns111_2 := NB202_191.out
   have hns111_3 := NB209_191.out
   have hms111_0 := NB191_190.out
   have hms111_2 := NB191_202.out
   have hms111_3 := NB191_209.out
   have hs112 : w104.cell? ⟨gb191, 3, none⟩ = some (.int .i64 0) := (blk_cell BK191.out 3).trans rfl
   have hfs112 := blk_frozen BK191.out 3
   have hns112_0 := NB190_191.out
   have hns112_2 := NB202_191.out
   have hns112_3 := NB209_191.out
   have hms112_0 := NB191_190.out
   have hms112_2 := NB191_202.out
   have hms112_3 := NB191_209.out
   refine skip_ (w1 := ?_) (by rfl) rfl ?_ ?_
   rotate_left
   ·go_simp
    rfl
   refine hK.out _ _ ⟨(g4 NB202_191.out hHeld.1), (g4 NB202_191.out hHeld.2.1), (g4 NB202_191.out hHeld.2.2.1), (g4 NB202_191.out hHeld.2.2.2.1), (g4 NB209_191.out hHeld.2.2.2.2.1), (g4 NB209_191.out hHeld.2.2.2.2.2.1), (g4 NB209_191.out hHeld.2.2.2.2.2.2.1), (g4 NB209_191.out hHeld.2.2.2.2.2.2.2)⟩ (fun hHeld => ?_)
   clear hK K
   refine done_ (by kernel_rfl) ?_
   try go_wp2
   refine bodyPost_ret (results_cc rfl _ _ gb190 gb191 25 25 #[.int .i64 t196, .int .i64 t197, .int .i64 t198, .int .i64 t199] #[.int .i64 t196, .int .i64 t197, .int .i64 (Go.bits .and .i64 t198 t213), .int .i64 t199] (0, 0) (0, 0) _ _ rfl (by (with_reducible repeat (first | refine blk_drewN ?_ _ | refine blk_drew ?_ | refine blk_alloc ?_ _)); refine blk_far ?_ NB190_191.out _; (with_reducible repeat (first | refine blk_drewN ?_ _ | refine blk_drew ?_ | refine blk_alloc ?_ _)); refine blk_far ?_ NB190_191.out _; (with_reducible repeat (first | refine blk_drewN ?_ _ | refine blk_drew ?_ | refine blk_alloc ?_ _)); refine blk_far ?_ NB190_191.out _; (with_reducible repeat (first | refine blk_drewN ?_ _ | refine blk_drew ?_ | refine blk_alloc ?_ _)); refine blk_far ?_ NB190_191.out _; (with_reducible repeat (first | refine blk_drewN ?_ _ | refine blk_drew ?_ | refine blk_alloc ?_ _)); refine blk_put (cs := #[.int .i64 t196, .int .i64 t197, .int .i64 t198, .int .i64 0]) ?_ 3 _ rfl; (with_reducible repeat (first | refine blk_drewN ?_ _ | refine blk_drew ?_ | refine blk_alloc ?_ _)); refine blk_put (cs := #[.int .i64 t196, .int .i64 t197, .int .i64 0, .int .i64 0]) ?_ 2 _ rfl; (with_reducible repeat (first | refine blk_drewN ?_ _ | refine blk_drew ?_ | refine blk_alloc ?_ _)); refine blk_put (cs := #[.int .i64 t196, .int .i64 0, .int .i64 0, .int .i64 0]) ?_ 1 _ rfl; (with_reducible repeat (first | refine blk_drewN ?_ _ | refine blk_drew ?_ | refine blk_alloc ?_ _)); refine blk_put (cs := #[.int .i64 0, .int .i64 0, .int .i64 0, .int .i64 0]) ?_ 0 _ rfl; (with_reducible repeat (first | refine blk_drewN ?_ _ | refine blk_drew ?_ | refine blk_alloc ?_ _)); exact BK190.out) Try.underlying25 rfl (by kernel_rfl) rfl (by (with_reducible repeat (first | refine blk_drewN ?_ _ | refine blk_drew ?_ | refine blk_alloc ?_ _)); refine blk_put (cs := #[.int .i64 t196, .int .i64 t197, .int .i64 (Go.bits .and .i64 t198 t213), .int .i64 0]) ?_ 3 _ rfl; (with_reducible repeat (first | refine blk_drewN ?_ _ | refine blk_drew ?_ | refine blk_alloc ?_ _)); refine blk_put (cs := #[.int .i64 t196, .int .i64 t197, .int .i64 0, .int .i64 0]) ?_ 2 _ rfl; (with_reducible repeat (first | refine blk_drewN ?_ _ | refine blk_drew ?_ | refine blk_alloc ?_ _)); refine blk_put (cs := #[.int .i64 t196, .int .i64 0, .int .i64 0, .int .i64 0]) ?_ 1 _ rfl; (with_reducible repeat (first | refine blk_drewN ?_ _ | refine blk_drew ?_ | refine blk_alloc ?_ _)); refine blk_put (cs := #[.int .i64 0, .int .i64 0, .int .i64 0, .int .i64 0]) ?_ 0 _ rfl; (with_reducible repeat (first | refine blk_drewN ?_ _ | refine blk_drew ?_ | refine blk_alloc ?_ _)); refine blk_far ?_ NB191_190.out _; (with_reducible repeat (first | refine blk_drewN ?_ _ | refine blk_drew ?_ | refine blk_alloc ?_ _)); refine blk_far ?_ NB191_190.out _; (with_reducible repeat (first | refine blk_drewN ?_ _ | refine blk_drew ?_ | refine blk_alloc ?_ _)); refine blk_far ?_ NB191_190.out _; (with_reducible repeat (first | refine blk_drewN ?_ _ | refine blk_drew ?_ | refine blk_alloc ?_ _)); refine blk_far ?_ NB191_190.out _; (with_reducible repeat (first | refine blk_drewN ?_ _ | refine blk_drew ?_ | refine blk_alloc ?_ _)); exact BK191.out) Try.underlying25 rfl (by kernel_rfl)) rfl ?_
   exact ⟨by first | rfl | (simp [errW_none, errW_some] <;> rfl) | (simp [*, errW_none, errW_some] <;> rfl), by repeat (first | (with_reducible first | exact HB.out | apply below_alloc | apply pw_below_drewN | apply below_drew1 | refine below_set ?_ (IsS90.ge HI195.out) | refine below_set ?_ GE190.out | refine below_set ?_ GE191.out | refine below_set ?_ GE202.out | refine below_set ?_ GE209.out) | exact HB.out)⟩
 ·replace c6 := Bool.eq_false_iff.mpr c6
  subst c6
  have H1 : (some (t196, t197, t198, t199, t203, t204, t205, t206)) = some (r1, r2, r3, r4, r5, r6, r7, r8) := by rw [if_neg (show ¬ (false = true) by decide)] at H; exact H
  clear H
  have H := H1
  clear H1
  simp only [Option.some.injEq, Prod.mk.injEq] at H
  obtain ⟨rfl, rfl, rfl, rfl, rfl, rfl, rfl, rfl⟩ := H
  go_enter Try.func80, Try.ntmps80
  try go_wp2_with (first | ((with_reducible refine gate_dst (N := 2) rfl ?_); refine box_event ?hg (N := 2) ?hd (cs := #[.int .i64 0, .int .i64 0, .int .i64 0, .int .i64 0]) (t := 25) ?hr ?_; (case hd => rfl); (case hg => rfl); (case hr => first | (go_simp; done) | (go_simp; rfl)); intro gb190 hg w113 hbox hb; have n0_ := nbs HB hb; have n1_ := Aside0.mk (hbox); have n2_ := nge HB hg; have n3_ := nge HB hg; clear HB; have HB := n0_; have BK190 := n1_; have GW190 := n2_; have GE190 := n3_; clear n0_ n1_ n2_ n3_; clear hb hbox hg) | ((with_reducible refine gate_dst (N := 3) rfl ?_); refine box_event ?hg (N := 3) ?hd (cs := #[.int .i64 0, .int .i64 0, .int .i64 0, .int .i64 0]) (t := 25) ?hr ?_; (case hd => rfl); (case hg => rfl); (case hr => first | (go_simp; done) | (go_simp; rfl)); intro gb191 hg w114 hbox hb; have n0_ := nblk BK190 hb; have n1_ := nbs HB hb; have n2_ := Aside0.mk (hbox); have n3_ := nge HB hg; have n4_ := nge HB hg; have n5_ := nlt BK190 hg; have n6_ := ngt BK190 hg; clear BK190 HB; have BK190 := n0_; have HB := n1_; have BK191 := n2_; have GW191 := n3_; have GE191 := n4_; have NB190_191 := n5_; have NB191_190 := n6_; clear n0_ n1_ n2_ n3_ n4_ n5_ n6_; clear hb hbox hg) | ((with_reducible refine gate_callee (f := 71) rfl ?_); refine goesM (some 8) rfl rfl Try.func71 (by kernel_rfl) rfl #[.slice A0 l0.length c0] rfl ?_; (with_reducible refine (spec_l1New.calls k _ _ l0 t192 t193 t194 w _ ?side1 ?side2 ?side3 A2.out).mono ?_); (case side1 => repeat (first | (with_reducible first | exact HB.out | apply below_alloc | apply pw_below_drewN | apply below_drew1 | refine below_set ?_ GE190.out | refine below_set ?_ GE191.out) | exact HB.out)); (case side2 => exact HR0.out); (case side3 => exact HC0.out); rintro e w115 ⟨g195, rfl, hi, hb, hb2⟩; refine ⟨_, rfl, ?_⟩; have n0_ := Aside0.mk (blk_below (g := gb190) (o := .cells #[.int .i64 0, .int .i64 0, .int .i64 0, .int .i64 0] 25 (0, 0)) (nb BK190) hb2); have n1_ := Aside0.mk (blk_below (g := gb191) (o := .cells #[.int .i64 0, .int .i64 0, .int .i64 0, .int .i64 0] 25 (0, 0)) (nb BK191) hb2); have n2_ := Aside0.mk (hb); have n3_ := Aside0.mk (hi); have n4_ := Aside0.mk (IsS90.ne_blk hi (blk_below (g := gb190) (o := .cells #[.int .i64 0, .int .i64 0, .int .i64 0, .int .i64 0] 25 (0, 0)) (nb BK190) hb2) (by decide)); have n5_ := Aside0.mk (Ne.symm (IsS90.ne_blk hi (blk_below (g := gb190) (o := .cells #[.int .i64 0, .int .i64 0, .int .i64 0, .int .i64 0] 25 (0, 0)) (nb BK190) hb2) (by decide))); have n6_ := Aside0.mk (IsS90.ne_blk hi (blk_below (g := gb191) (o := .cells #[.int .i64 0, .int .i64 0, .int .i64 0, .int .i64 0] 25 (0, 0)) (nb BK191) hb2) (by decide)); have n7_ := Aside0.mk (Ne.symm (IsS90.ne_blk hi (blk_below (g := gb191) (o := .cells #[.int .i64 0, .int .i64 0, .int .i64 0, .int .i64 0] 25 (0, 0)) (nb BK191) hb2) (by decide))); clear BK190 BK191 HB; have BK190 := n0_; have BK191 := n1_; have HB := n2_; have HI195 := n3_; have NB195_190 := n4_; have NB190_195 := n5_; have NB195_191 := n6_; have NB191_195 := n7_; clear n0_ n1_ n2_ n3_ n4_ n5_ n6_ n7_; (try clear hb)) | ((with_reducible refine gate_callee (f := 83) rfl ?_); refine goesM (some 10) rfl rfl Try.func83 (by kernel_rfl) rfl #[.pointer (some ⟨g195, 0, none⟩)] rfl ?_; (with_reducible refine (spec_l2Draw.calls k g195 t192 t193 t194 t196 t197 t198 t199 t200 t201 w _ ?side1 ?side2 A3.out).mono ?_); (case side1 => repeat (first | (with_reducible first | exact HI195.out | apply IsS90.alloc | apply IsS90.drewN | apply IsS90.drew | apply IsS90.set_1 | apply IsS90.set_2 | refine IsS90.far ?_ NB195_190.out _ | refine IsS90.far ?_ NB195_191.out _) | exact HI195.out)); (case side2 => repeat (first | (with_reducible first | exact HB.out | apply below_alloc | apply pw_below_drewN | apply below_drew1 | refine below_set ?_ (IsS90.ge HI195.out) | refine below_set ?_ GE190.out | refine below_set ?_ GE191.out) | exact HB.out)); rintro e w116 ⟨rfl, hi, hb, hk⟩; refine ⟨_, rfl, ?_⟩; have n0_ := Aside0.mk (KeepBut.blk hk (g' := gb190) (o := .cells #[.int .i64 0, .int .i64 0, .int .i64 0, .int .i64 0] 25 (0, 0)) (nb BK190) NB190_195.out (by simp)); have n1_ := Aside0.mk (KeepBut.blk hk (g' := gb191) (o := .cells #[.int .i64 0, .int .i64 0, .int .i64 0, .int .i64 0] 25 (0, 0)) (nb BK191) NB191_195.out (by simp)); have n2_ := Aside0.mk (hb); have n3_ := Aside0.mk (hi); clear BK190 BK191 HB HI195; have BK190 := n0_; have BK191 := n1_; have HB := n2_; have HI195 := n3_; clear n0_ n1_ n2_ n3_; (try clear hb)) | ((with_reducible refine gate_dst (N := 5) rfl ?_); refine box_event ?hg (N := 5) ?hd (cs := #[.int .i64 0, .int .i64 0, .int .i64 0, .int .i64 0]) (t := 25) ?hr ?_; (case hd => rfl); (case hg => rfl); (case hr => first | (go_simp; done) | (go_simp; rfl)); intro gb202 hg w117 hbox hb; have n0_ := nblk BK190 hb; have n1_ := nblk BK191 hb; have n2_ := Aside0.mk (IsS90.below (by repeat (first | (with_reducible first | exact HI195.out | apply IsS90.alloc | apply IsS90.drewN | apply IsS90.drew | apply IsS90.set_1 | apply IsS90.set_2 | refine IsS90.far ?_ NB195_190.out _ | refine IsS90.far ?_ NB195_191.out _) | exact HI195.out)) hb); have n3_ := Aside0.mk (below_step (by repeat (first | (with_reducible first | exact HB.out | apply below_alloc | apply pw_below_drewN | apply below_drew1 | refine below_set ?_ (IsS90.ge HI195.out) | refine below_set ?_ GE190.out | refine below_set ?_ GE191.out) | exact HB.out)) hb); have n4_ := Aside0.mk (hbox); have n5_ := Aside0.mk ((by rw [hg]; exact (below_size (by repeat (first | (with_reducible first | exact HB.out | apply below_alloc | apply pw_below_drewN | apply below_drew1 | refine below_set ?_ (IsS90.ge HI195.out) | refine below_set ?_ GE190.out | refine below_set ?_ GE191.out) | exact HB.out))) : w.heap.size ≤ gb202)); have n6_ := Aside0.mk ((by rw [hg]; exact (below_size (by repeat (first | (with_reducible first | exact HB.out | apply below_alloc | apply pw_below_drewN | apply below_drew1 | refine below_set ?_ (IsS90.ge HI195.out) | refine below_set ?_ GE190.out | refine below_set ?_ GE191.out) | exact HB.out))) : w.heap.size ≤ gb202)); have n7_ := nlt BK190 hg; have n8_ := ngt BK190 hg; have n9_ := nlt BK191 hg; have n10_ := ngt BK191 hg; have n11_ := Aside0.mk ((by rw [hg]; exact Nat.ne_of_lt (IsS90.lt (show IsS90 w _ g195 t192 t200 t201 from by repeat (first | (with_reducible first | exact HI195.out | apply IsS90.alloc | apply IsS90.drewN | apply IsS90.drew | apply IsS90.set_1 | apply IsS90.set_2 | refine IsS90.far ?_ NB195_190.out _ | refine IsS90.far ?_ NB195_191.out _) | exact HI195.out))) : g195 ≠ gb202)); have n12_ := Aside0.mk ((by rw [hg]; exact Nat.ne_of_gt (IsS90.lt (show IsS90 w _ g195 t192 t200 t201 from by repeat (first | (with_reducible first | exact HI195.out | apply IsS90.alloc | apply IsS90.drewN | apply IsS90.drew | apply IsS90.set_1 | apply IsS90.set_2 | refine IsS90.far ?_ NB195_190.out _ | refine IsS90.far ?_ NB195_191.out _) | exact HI195.out))) : gb202 ≠ g195)); clear BK190 BK191 HI195 HB; have BK190 := n0_; have BK191 := n1_; have HI195 := n2_; have HB := n3_; have BK202 := n4_; have GW202 := n5_; have GE202 := n6_; have NB190_202 := n7_; have NB202_190 := n8_; have NB191_202 := n9_; have NB202_191 := n10_; have NB195_202 := n11_; have NB202_195 := n12_; clear n0_ n1_ n2_ n3_ n4_ n5_ n6_ n7_ n8_ n9_ n10_ n11_ n12_; clear hb hbox hg; have hnb118 := NB202_190.out; have hnc118 := NB190_202.out; have hnb119 := NB202_191.out; have hnc119 := NB191_202.out; have hnb120 := NB202_195.out; have hnc120 := NB195_202.out; have hcz121_0 : w117.cell? ⟨gb202, 0, none⟩ = some (.int .i64 0) := (blk_cell BK202.out 0).trans rfl; have hcz121_1 : w117.cell? ⟨gb202, 1, none⟩ = some (.int .i64 0) := (blk_cell BK202.out 1).trans rfl; have hcz121_2 : w117.cell? ⟨gb202, 2, none⟩ = some (.int .i64 0) := (blk_cell BK202.out 2).trans rfl; have hcz121_3 : w117.cell? ⟨gb202, 3, none⟩ = some (.int .i64 0) := (blk_cell BK202.out 3).trans rfl; have hfz121_0 := blk_frozen BK202.out 0; have hfz121_1 := blk_frozen BK202.out 1; have hfz121_2 := blk_frozen BK202.out 2; have hfz121_3 := blk_frozen BK202.out 3) | ((with_reducible refine gate_callee (f := 83) rfl ?_); refine goesM (some 12) rfl rfl Try.func83 (by kernel_rfl) rfl #[.pointer (some ⟨g195, 0, none⟩)] rfl ?_; (with_reducible refine (spec_l2Draw.calls k g195 t192 t200 t201 t203 t204 t205 t206 t207 t208 w _ ?side1 ?side2 A4.out).mono ?_); (case side1 => repeat (first | (with_reducible first | exact HI195.out | apply IsS90.alloc | apply IsS90.drewN | apply IsS90.drew | apply IsS90.set_1 | apply IsS90.set_2 | refine IsS90.far ?_ NB195_190.out _ | refine IsS90.far ?_ NB195_191.out _ | refine IsS90.far ?_ NB195_202.out _) | exact HI195.out)); (case side2 => repeat (first | (with_reducible first | exact HB.out | apply below_alloc | apply pw_below_drewN | apply below_drew1 | refine below_set ?_ (IsS90.ge HI195.out) | refine below_set ?_ GE190.out | refine below_set ?_ GE191.out | refine below_set ?_ GE202.out) | exact HB.out)); rintro e w122 ⟨rfl, hi, hb, hk⟩; refine ⟨_, rfl, ?_⟩; have n0_ := Aside0.mk (KeepBut.blk hk (g' := gb190) (o := .cells #[.int .i64 0, .int .i64 0, .int .i64 0, .int .i64 0] 25 (0, 0)) (by (with_reducible repeat (first | refine blk_drewN ?_ _ | refine blk_drew ?_ | refine blk_alloc ?_ _)); refine blk_far ?_ NB190_202.out _; (with_reducible repeat (first | refine blk_drewN ?_ _ | refine blk_drew ?_ | refine blk_alloc ?_ _)); refine blk_far ?_ NB190_202.out _; (with_reducible repeat (first | refine blk_drewN ?_ _ | refine blk_drew ?_ | refine blk_alloc ?_ _)); refine blk_far ?_ NB190_202.out _; (with_reducible repeat (first | refine blk_drewN ?_ _ | refine blk_drew ?_ | refine blk_alloc ?_ _)); refine blk_far ?_ NB190_202.out _; (with_reducible repeat (first | refine blk_drewN ?_ _ | refine blk_drew ?_ | refine blk_alloc ?_ _)); exact BK190.out) NB190_195.out (by simp)); have n1_ := Aside0.mk (KeepBut.blk hk (g' := gb191) (o := .cells #[.int .i64 0, .int .i64 0, .int .i64 0, .int .i64 0] 25 (0, 0)) (by (with_reducible repeat (first | refine blk_drewN ?_ _ | refine blk_drew ?_ | refine blk_alloc ?_ _)); refine blk_far ?_ NB191_202.out _; (with_reducible repeat (first | refine blk_drewN ?_ _ | refine blk_drew ?_ | refine blk_alloc ?_ _)); refine blk_far ?_ NB191_202.out _; (with_reducible repeat (first | refine blk_drewN ?_ _ | refine blk_drew ?_ | refine blk_alloc ?_ _)); refine blk_far ?_ NB191_202.out _; (with_reducible repeat (first | refine blk_drewN ?_ _ | refine blk_drew ?_ | refine blk_alloc ?_ _)); refine blk_far ?_ NB191_202.out _; (with_reducible repeat (first | refine blk_drewN ?_ _ | refine blk_drew ?_ | refine blk_alloc ?_ _)); exact BK191.out) NB191_195.out (by simp)); have n2_ := Aside0.mk (KeepBut.blk hk (g' := gb202) (o := .cells #[.int .i64 t196, .int .i64 t197, .int .i64 t198, .int .i64 t199] 25 (0, 0)) (by (with_reducible repeat (first | refine blk_drewN ?_ _ | refine blk_drew ?_ | refine blk_alloc ?_ _)); refine blk_put (cs := #[.int .i64 t196, .int .i64 t197, .int .i64 t198, .int .i64 0]) ?_ 3 _ rfl; (with_reducible repeat (first | refine blk_drewN ?_ _ | refine blk_drew ?_ | refine blk_alloc ?_ _)); refine blk_put (cs := #[.int .i64 t196, .int .i64 t197, .int .i64 0, .int .i64 0]) ?_ 2 _ rfl; (with_reducible repeat (first | refine blk_drewN ?_ _ | refine blk_drew ?_ | refine blk_alloc ?_ _)); refine blk_put (cs := #[.int .i64 t196, .int .i64 0, .int .i64 0, .int .i64 0]) ?_ 1 _ rfl; (with_reducible repeat (first | refine blk_drewN ?_ _ | refine blk_drew ?_ | refine blk_alloc ?_ _)); refine blk_put (cs := #[.int .i64 0, .int .i64 0, .int .i64 0, .int .i64 0]) ?_ 0 _ rfl; (with_reducible repeat (first | refine blk_drewN ?_ _ | refine blk_drew ?_ | refine blk_alloc ?_ _)); exact BK202.out) NB202_195.out (by simp)); have n3_ := Aside0.mk (hb); have n4_ := Aside0.mk (hi); clear BK190 BK191 BK202 HB HI195; have BK190 := n0_; have BK191 := n1_; have BK202 := n2_; have HB := n3_; have HI195 := n4_; clear n0_ n1_ n2_ n3_ n4_; (try clear hb)) | ((with_reducible refine gate_dst (N := 6) rfl ?_); refine box_event ?hg (N := 6) ?hd (cs := #[.int .i64 0, .int .i64 0, .int .i64 0, .int .i64 0]) (t := 25) ?hr ?_; (case hd => rfl); (case hg => rfl); (case hr => first | (go_simp; done) | (go_simp; rfl)); intro gb209 hg w123 hbox hb; have n0_ := nblk BK190 hb; have n1_ := nblk BK191 hb; have n2_ := Aside0.mk (IsS90.below (by repeat (first | (with_reducible first | exact HI195.out | apply IsS90.alloc | apply IsS90.drewN | apply IsS90.drew | apply IsS90.set_1 | apply IsS90.set_2 | refine IsS90.far ?_ NB195_190.out _ | refine IsS90.far ?_ NB195_191.out _ | refine IsS90.far ?_ NB195_202.out _) | exact HI195.out)) hb); have n3_ := nblk BK202 hb; have n4_ := Aside0.mk (below_step (by repeat (first | (with_reducible first | exact HB.out | apply below_alloc | apply pw_below_drewN | apply below_drew1 | refine below_set ?_ (IsS90.ge HI195.out) | refine below_set ?_ GE190.out | refine below_set ?_ GE191.out | refine below_set ?_ GE202.out) | exact HB.out)) hb); have n5_ := Aside0.mk (hbox); have n6_ := Aside0.mk ((by rw [hg]; exact (below_size (by repeat (first | (with_reducible first | exact HB.out | apply below_alloc | apply pw_below_drewN | apply below_drew1 | refine below_set ?_ (IsS90.ge HI195.out) | refine below_set ?_ GE190.out | refine below_set ?_ GE191.out | refine below_set ?_ GE202.out) | exact HB.out))) : w.heap.size ≤ gb209)); have n7_ := Aside0.mk ((by rw [hg]; exact (below_size (by repeat (first | (with_reducible first | exact HB.out | apply below_alloc | apply pw_below_drewN | apply below_drew1 | refine below_set ?_ (IsS90.ge HI195.out) | refine below_set ?_ GE190.out | refine below_set ?_ GE191.out | refine below_set ?_ GE202.out) | exact HB.out))) : w.heap.size ≤ gb209)); have n8_ := nlt BK190 hg; have n9_ := ngt BK190 hg; have n10_ := nlt BK191 hg; have n11_ := ngt BK191 hg; have n12_ := nlt BK202 hg; have n13_ := ngt BK202 hg; have n14_ := Aside0.mk ((by rw [hg]; exact Nat.ne_of_lt (IsS90.lt (show IsS90 w _ g195 t192 t207 t208 from by repeat (first | (with_reducible first | exact HI195.out | apply IsS90.alloc | apply IsS90.drewN | apply IsS90.drew | apply IsS90.set_1 | apply IsS90.set_2 | refine IsS90.far ?_ NB195_190.out _ | refine IsS90.far ?_ NB195_191.out _ | refine IsS90.far ?_ NB195_202.out _) | exact HI195.out))) : g195 ≠ gb209)); have n15_ := Aside0.mk ((by rw [hg]; exact Nat.ne_of_gt (IsS90.lt (show IsS90 w _ g195 t192 t207 t208 from by repeat (first | (with_reducible first | exact HI195.out | apply IsS90.alloc | apply IsS90.drewN | apply IsS90.drew | apply IsS90.set_1 | apply IsS90.set_2 | refine IsS90.far ?_ NB195_190.out _ | refine IsS90.far ?_ NB195_191.out _ | refine IsS90.far ?_ NB195_202.out _) | exact HI195.out))) : gb209 ≠ g195)); clear BK190 BK191 HI195 BK202 HB; have BK190 := n0_; have BK191 := n1_; have HI195 := n2_; have BK202 := n3_; have HB := n4_; have BK209 := n5_; have GW209 := n6_; have GE209 := n7_; have NB190_209 := n8_; have NB209_190 := n9_; have NB191_209 := n10_; have NB209_191 := n11_; have NB202_209 := n12_; have NB209_202 := n13_; have NB195_209 := n14_; have NB209_195 := n15_; clear n0_ n1_ n2_ n3_ n4_ n5_ n6_ n7_ n8_ n9_ n10_ n11_ n12_ n13_ n14_ n15_; clear hb hbox hg; have hnb124 := NB209_190.out; have hnc124 := NB190_209.out; have hnb125 := NB209_191.out; have hnc125 := NB191_209.out; have hnb126 := NB209_202.out; have hnc126 := NB202_209.out; have hnb127 := NB209_195.out; have hnc127 := NB195_209.out; have hcz128_0 : w123.cell? ⟨gb209, 0, none⟩ = some (.int .i64 0) := (blk_cell BK209.out 0).trans rfl; have hcz128_1 : w123.cell? ⟨gb209, 1, none⟩ = some (.int .i64 0) := (blk_cell BK209.out 1).trans rfl; have hcz128_2 : w123.cell? ⟨gb209, 2, none⟩ = some (.int .i64 0) := (blk_cell BK209.out 2).trans rfl; have hcz128_3 : w123.cell? ⟨gb209, 3, none⟩ = some (.int .i64 0) := (blk_cell BK209.out 3).trans rfl; have hfz128_0 := blk_frozen BK209.out 0; have hfz128_1 := blk_frozen BK209.out 1; have hfz128_2 := blk_frozen BK209.out 2; have hfz128_3 := blk_frozen BK209.out 3) | ((with_reducible refine gate_callee (f := 75) rfl ?_); refine goesM (some 14) rfl rfl Try.func75 (by kernel_rfl) rfl #[.pointer (some ⟨g195, 0, none⟩), .int .i64 2] rfl ?_; (with_reducible refine (spec_l1Once.calls g195 t192 t207 t208 2 false t211 t212 w _ ?side1 ?side2 A5.out).mono ?_); (case side1 => repeat (first | (with_reducible first | exact HI195.out | apply IsS90.alloc | apply IsS90.drewN | apply IsS90.drew | apply IsS90.set_1 | apply IsS90.set_2 | refine IsS90.far ?_ NB195_190.out _ | refine IsS90.far ?_ NB195_191.out _ | refine IsS90.far ?_ NB195_202.out _ | refine IsS90.far ?_ NB195_209.out _) | exact HI195.out)); (case side2 => repeat (first | (with_reducible first | exact HB.out | apply below_alloc | apply pw_below_drewN | apply below_drew1 | refine below_set ?_ (IsS90.ge HI195.out) | refine below_set ?_ GE190.out | refine below_set ?_ GE191.out | refine below_set ?_ GE202.out | refine below_set ?_ GE209.out) | exact HB.out)); rintro e w129 ⟨rfl, hi, hb, hk⟩; refine ⟨_, rfl, ?_⟩; have n0_ := Aside0.mk (KeepBut.blk hk (g' := gb190) (o := .cells #[.int .i64 0, .int .i64 0, .int .i64 0, .int .i64 0] 25 (0, 0)) (by (with_reducible repeat (first | refine blk_drewN ?_ _ | refine blk_drew ?_ | refine blk_alloc ?_ _)); refine blk_far ?_ NB190_209.out _; (with_reducible repeat (first | refine blk_drewN ?_ _ | refine blk_drew ?_ | refine blk_alloc ?_ _)); refine blk_far ?_ NB190_209.out _; (with_reducible repeat (first | refine blk_drewN ?_ _ | refine blk_drew ?_ | refine blk_alloc ?_ _)); refine blk_far ?_ NB190_209.out _; (with_reducible repeat (first | refine blk_drewN ?_ _ | refine blk_drew ?_ | refine blk_alloc ?_ _)); refine blk_far ?_ NB190_209.out _; (with_reducible repeat (first | refine blk_drewN ?_ _ | refine blk_drew ?_ | refine blk_alloc ?_ _)); exact BK190.out) NB190_195.out (by simp)); have n1_ := Aside0.mk (KeepBut.blk hk (g' := gb191) (o := .cells #[.int .i64 0, .int .i64 0, .int .i64 0, .int .i64 0] 25 (0, 0)) (by (with_reducible repeat (first | refine blk_drewN ?_ _ | refine blk_drew ?_ | refine blk_alloc ?_ _)); refine blk_far ?_ NB191_209.out _; (with_reducible repeat (first | refine blk_drewN ?_ _ | refine blk_drew ?_ | refine blk_alloc ?_ _)); refine blk_far ?_ NB191_209.out _; (with_reducible repeat (first | refine blk_drewN ?_ _ | refine blk_drew ?_ | refine blk_alloc ?_ _)); refine blk_far ?_ NB191_209.out _; (with_reducible repeat (first | refine blk_drewN ?_ _ | refine blk_drew ?_ | refine blk_alloc ?_ _)); refine blk_far ?_ NB191_209.out _; (with_reducible repeat (first | refine blk_drewN ?_ _ | refine blk_drew ?_ | refine blk_alloc ?_ _)); exact BK191.out) NB191_195.out (by simp)); have n2_ := Aside0.mk (KeepBut.blk hk (g' := gb202) (o := .cells #[.int .i64 t196, .int .i64 t197, .int .i64 t198, .int .i64 t199] 25 (0, 0)) (by (with_reducible repeat (first | refine blk_drewN ?_ _ | refine blk_drew ?_ | refine blk_alloc ?_ _)); refine blk_far ?_ NB202_209.out _; (with_reducible repeat (first | refine blk_drewN ?_ _ | refine blk_drew ?_ | refine blk_alloc ?_ _)); refine blk_far ?_ NB202_209.out _; (with_reducible repeat (first | refine blk_drewN ?_ _ | refine blk_drew ?_ | refine blk_alloc ?_ _)); refine blk_far ?_ NB202_209.out _; (with_reducible repeat (first | refine blk_drewN ?_ _ | refine blk_drew ?_ | refine blk_alloc ?_ _)); refine blk_far ?_ NB202_209.out _; (with_reducible repeat (first | refine blk_drewN ?_ _ | refine blk_drew ?_ | refine blk_alloc ?_ _)); exact BK202.out) NB202_195.out (by simp)); have n3_ := Aside0.mk (KeepBut.blk hk (g' := gb209) (o := .cells #[.int .i64 t203, .int .i64 t204, .int .i64 t205, .int .i64 t206] 25 (0, 0)) (by (with_reducible repeat (first | refine blk_drewN ?_ _ | refine blk_drew ?_ | refine blk_alloc ?_ _)); refine blk_put (cs := #[.int .i64 t203, .int .i64 t204, .int .i64 t205, .int .i64 0]) ?_ 3 _ rfl; (with_reducible repeat (first | refine blk_drewN ?_ _ | refine blk_drew ?_ | refine blk_alloc ?_ _)); refine blk_put (cs := #[.int .i64 t203, .int .i64 t204, .int .i64 0, .int .i64 0]) ?_ 2 _ rfl; (with_reducible repeat (first | refine blk_drewN ?_ _ | refine blk_drew ?_ | refine blk_alloc ?_ _)); refine blk_put (cs := #[.int .i64 t203, .int .i64 0, .int .i64 0, .int .i64 0]) ?_ 1 _ rfl; (with_reducible repeat (first | refine blk_drewN ?_ _ | refine blk_drew ?_ | refine blk_alloc ?_ _)); refine blk_put (cs := #[.int .i64 0, .int .i64 0, .int .i64 0, .int .i64 0]) ?_ 0 _ rfl; (with_reducible repeat (first | refine blk_drewN ?_ _ | refine blk_drew ?_ | refine blk_alloc ?_ _)); exact BK209.out) NB209_195.out (by simp)); have n4_ := Aside0.mk (hb); have n5_ := Aside0.mk (hi); clear BK190 BK191 BK202 BK209 HB HI195; have BK190 := n0_; have BK191 := n1_; have BK202 := n2_; have BK209 := n3_; have HB := n4_; have HI195 := n5_; clear n0_ n1_ n2_ n3_ n4_ n5_; (try clear hb)))
  have n0_ := Aside0.mk (blk_drew BK190.out)
  have n1_ := Aside0.mk (blk_drew BK191.out)
  have n2_ := Aside0.mk (blk_drew BK202.out)
  have n3_ := Aside0.mk (blk_drew BK209.out)
  have n4_ := Aside0.mk (IsS90.drew HI195.out)
  have n5_ := Aside0.mk (below_drew1 HB.out)
  clear BK190 BK191 BK202 BK209 HI195 HB
  have BK190 := n0_
  have BK191 := n1_
  have BK202 := n2_
  have BK209 := n3_
  have HI195 := n4_
  have HB := n5_
  clear n0_ n1_ n2_ n3_ n4_ n5_
  refine start_ (n := 4) (S := fun w' => w'.cell? ⟨gb202, 0, none⟩ = some (.int .i64 t196) ∧ w'.cell? ⟨gb202, 1, none⟩ = some (.int .i64 t197) ∧ w'.cell? ⟨gb202, 2, none⟩ = some (.int .i64 t198) ∧ w'.cell? ⟨gb202, 3, none⟩ = some (.int .i64 t199) ∧ w'.cell? ⟨gb209, 0, none⟩ = some (.int .i64 t203) ∧ w'.cell? ⟨gb209, 1, none⟩ = some (.int .i64 t204) ∧ w'.cell? ⟨gb209, 2, none⟩ = some (.int .i64 t205) ∧ w'.cell? ⟨gb209, 3, none⟩ = some (.int .i64 t206)) (ds := []) #[false, false, false, false] (by kernel_rfl) rfl rfl (c4 BK202 (c4e BK209)) (fun hHeld => ?_)
  generalize w129.drew = w130 at BK190 BK191 BK202 BK209 HI195 HB hHeld ⊢
  refine take_ (i := 0) (N := some 37) (v := ?_) (a' := ?_) #[true, false, false, false] rfl rfl (by kernel_rfl) (fun _ _ _ h => h) (Or.inl ⟨by rfl, ?_⟩) hHeld ?_ ?_
  rotate_left
  ·rintro w' ⟨s0, s1, s2, s3, s4, s5, s6, s7⟩
   go_simp
   with_reducible rfl
  rotate_left
  ·simp only [Act.put, List.setIfInBounds_toArray, List.set_cons_zero, List.set_cons_succ, i64_w, i32_w]
   rfl
  refine take_ (i := 1) (N := some 38) (v := ?_) (a' := ?_) #[true, true, false, false] rfl rfl (by kernel_rfl) (fun _ _ _ h => h) (Or.inl ⟨by rfl, ?_⟩) hHeld ?_ ?_
  rotate_left
  ·rintro w' ⟨s0, s1, s2, s3, s4, s5, s6, s7⟩
   go_simp
   with_reducible rfl
  rotate_left
  ·simp only [Act.put, List.setIfInBounds_toArray, List.set_cons_zero, List.set_cons_succ, i64_w, i32_w]
   rfl
  refine one_ (i := 2) (N := none) #[true, true, true, false] rfl rfl (by kernel_rfl) (by decide) (fun K hK => ?_)
  have hs131 : w130.cell? ⟨gb190, 0, none⟩ = some (.int .i64 0) := (blk_cell BK190.out 0).trans rfl
  have hfs131 := blk_frozen BK190.out 0
  have hns131_1 := NB191_190.out
  have hns131_2 := NB202_190.out
  have hns131_3 := NB209_190.out
  have hms131_1 := NB190_191.out
  have hms131_2 := NB190_202.out
  have hms131_3 := NB190_209.out
  have hs132 : w130.cell? ⟨gb190, 1, none⟩ = some (.int .i64 0) := (blk_cell BK190.out 1).trans rfl
  have hfs132 := blk_frozen BK190.out 1
  have hns132_1 := NB191_190.out
  have hns132_2 := NB202_190.out
  have hns132_3 := NB209_190.out
  have hms132_1 := NB190_191.out
  have hms132_2 := NB190_202.out
  have hms132_3 := NB190_209.out
  have hs133 : w130.cell? ⟨gb190, 2, none⟩ = some (.int .i64 0) := (blk_cell BK190.out 2).trans rfl
  have hfs133 := blk_frozen BK190.out 2
  have hns133_1 := NB191_190.out
  have hns133_2 := NB202_190.out
  have hns133_3 := NB209_190.out
  have hms133_1 := NB190_191.out
  have hms133_2 := NB190_202.out
  have hms133_3 := NB190_209.out
  have hs134 : w130.cell? ⟨gb190, 3, none⟩ = some (.int .i64 0) := (blk_cell BK190.out 3).trans rfl
  have hfs134 := blk_frozen BK190.out 3
  have hns134_1 := NB191_190.out
  have hns134_2 := NB202_190.out
  have hns134_3 := NB209_190.out
  have hms134_1 := NB190_191.out
  have hms134_2 := NB190_202.out
  have hms134_3 := NB190_209.out
  refine skip_ (w1 := ?_) (by rfl) rfl ?_ ?_
  rotate_left
  ·go_simp
   rfl
  refine hK.out _ _ ⟨(g4 NB202_190.out hHeld.1), (g4 NB202_190.out hHeld.2.1), (g4 NB202_190.out hHeld.2.2.1), (g4 NB202_190.out hHeld.2.2.2.1), (g4 NB209_190.out hHeld.2.2.2.2.1), (g4 NB209_190.out hHeld.2.2.2.2.2.1), (g4 NB209_190.out hHeld.2.2.2.2.2.2.1), (g4 NB209_190.out hHeld.2.2.2.2.2.2.2)⟩ (fun hHeld => ?_)
  clear hK K
  refine one_ (i := 3) (N := none) #[true, true, true, true] rfl rfl (by kernel_rfl) (by decide) (fun K hK => ?_)
  have hs135 : w130.cell? ⟨gb191, 0, none⟩ = some (.int .i64 0) := (blk_cell BK191.out 0).trans rfl
  have hfs135 := blk_frozen BK191.out 0
  have hns135_0 := NB190_191.out
  have hns135_2 := NB202_191.out
  have hns135_3 := NB209_191.out
  have hms135_0 := NB191_190.out
  have hms135_2 := NB191_202.out
  have hms135_3 := NB191_209.out
  have hs136 : w130.cell? ⟨gb191, 1, none⟩ = some (.int .i64 0) := (blk_cell BK191.out 1).trans rfl
  have hfs136 := blk_frozen BK191.out 1
  have hns136_0 := NB190_191.out
  have hns136_2 := NB202_191.out
  have hns136_3 := NB209_191.out
  have hms136_0 := NB191_190.out
  have hms136_2 := NB191_202.out
  have hms136_3 := NB191_209.out
  have hs137 : w130.cell? ⟨gb191, 2, none⟩ = some (.int .i64 0) := (blk_cell BK191.out 2).trans rfl
  have hfs137 := blk_frozen BK191.out 2
  have hns137_0 := NB190_191.out
  have hns137_2 := NB202_191.out
  have hns137_3 := NB209_191.out
  have hms137_0 := NB191_190.out
  have hms137_2 := NB191_202.out
  have hms137_3 := NB191_209.out
  have hs138 : w130.cell? ⟨gb191, 3, none⟩ = some (.int .i64 0) := (blk_cell BK191.out 3).trans rfl
  have hfs138 := blk_frozen BK191.out 3
  have hns138_0 := NB190_191.out
  have hns138_2 := NB202_191.out
  have hns138_3 := NB209_191.out
  have hms138_0 := NB191_190.out
  have hms138_2 := NB191_202.out
  have hms138_3 := NB191_209.out
  refine skip_ (w1 := ?_) (by rfl) rfl ?_ ?_
  rotate_left
  ·go_simp
   rfl
  refine hK.out _ _ ⟨(g4 NB202_191.out hHeld.1), (g4 NB202_191.out hHeld.2.1), (g4 NB202_191.out hHeld.2.2.1), (g4 NB202_191.out hHeld.2.2.2.1), (g4 NB209_191.out hHeld.2.2.2.2.1), (g4 NB209_191.out hHeld.2.2.2.2.2.1), (g4 NB209_191.out hHeld.2.2.2.2.2.2.1), (g4 NB209_191.out hHeld.2.2.2.2.2.2.2)⟩ (fun hHeld => ?_)
  clear hK K
  refine done_ (by kernel_rfl) ?_
  try go_wp2
  refine bodyPost_ret (results_cc rfl _ _ gb190 gb191 25 25 #[.int .i64 t196, .int .i64 t197, .int .i64 t198, .int .i64 t199] #[.int .i64 t203, .int .i64 t204, .int .i64 t205, .int .i64 t206] (0, 0) (0, 0) _ _ rfl (by (with_reducible repeat (first | refine blk_drewN ?_ _ | refine blk_drew ?_ | refine blk_alloc ?_ _)); refine blk_far ?_ NB190_191.out _; (with_reducible repeat (first | refine blk_drewN ?_ _ | refine blk_drew ?_ | refine blk_alloc ?_ _)); refine blk_far ?_ NB190_191.out _; (with_reducible repeat (first | refine blk_drewN ?_ _ | refine blk_drew ?_ | refine blk_alloc ?_ _)); refine blk_far ?_ NB190_191.out _; (with_reducible repeat (first | refine blk_drewN ?_ _ | refine blk_drew ?_ | refine blk_alloc ?_ _)); refine blk_far ?_ NB190_191.out _; (with_reducible repeat (first | refine blk_drewN ?_ _ | refine blk_drew ?_ | refine blk_alloc ?_ _)); refine blk_put (cs := #[.int .i64 t196, .int .i64 t197, .int .i64 t198, .int .i64 0]) ?_ 3 _ rfl; (with_reducible repeat (first | refine blk_drewN ?_ _ | refine blk_drew ?_ | refine blk_alloc ?_ _)); refine blk_put (cs := #[.int .i64 t196, .int .i64 t197, .int .i64 0, .int .i64 0]) ?_ 2 _ rfl; (with_reducible repeat (first | refine blk_drewN ?_ _ | refine blk_drew ?_ | refine blk_alloc ?_ _)); refine blk_put (cs := #[.int .i64 t196, .int .i64 0, .int .i64 0, .int .i64 0]) ?_ 1 _ rfl; (with_reducible repeat (first | refine blk_drewN ?_ _ | refine blk_drew ?_ | refine blk_alloc ?_ _)); refine blk_put (cs := #[.int .i64 0, .int .i64 0, .int .i64 0, .int .i64 0]) ?_ 0 _ rfl; (with_reducible repeat (first | refine blk_drewN ?_ _ | refine blk_drew ?_ | refine blk_alloc ?_ _)); exact BK190.out) Try.underlying25 rfl (by kernel_rfl) rfl (by (with_reducible repeat (first | refine blk_drewN ?_ _ | refine blk_drew ?_ | refine blk_alloc ?_ _)); refine blk_put (cs := #[.int .i64 t203, .int .i64 t204, .int .i64 t205, .int .i64 0]) ?_ 3 _ rfl; (with_reducible repeat (first | refine blk_drewN ?_ _ | refine blk_drew ?_ | refine blk_alloc ?_ _)); refine blk_put (cs := #[.int .i64 t203, .int .i64 t204, .int .i64 0, .int .i64 0]) ?_ 2 _ rfl; (with_reducible repeat (first | refine blk_drewN ?_ _ | refine blk_drew ?_ | refine blk_alloc ?_ _)); refine blk_put (cs := #[.int .i64 t203, .int .i64 0, .int .i64 0, .int .i64 0]) ?_ 1 _ rfl; (with_reducible repeat (first | refine blk_drewN ?_ _ | refine blk_drew ?_ | refine blk_alloc ?_ _)); refine blk_put (cs := #[.int .i64 0, .int .i64 0, .int .i64 0, .int .i64 0]) ?_ 0 _ rfl; (with_reducible repeat (first | refine blk_drewN ?_ _ | refine blk_drew ?_ | refine blk_alloc ?_ _)); refine blk_far ?_ NB191_190.out _; (with_reducible repeat (first | refine blk_drewN ?_ _ | refine blk_drew ?_ | refine blk_alloc ?_ _)); refine blk_far ?_ NB191_190.out _; (with_reducible repeat (first | refine blk_drewN ?_ _ | refine blk_drew ?_ | refine blk_alloc ?_ _)); refine blk_far ?_ NB191_190.out _; (with_reducible repeat (first | refine blk_drewN ?_ _ | refine blk_drew ?_ | refine blk_alloc ?_ _)); refine blk_far ?_ NB191_190.out _; (with_reducible repeat (first | refine blk_drewN ?_ _ | refine blk_drew ?_ | refine blk_alloc ?_ _)); exact BK191.out) Try.underlying25 rfl (by kernel_rfl)) rfl ?_
  exact ⟨by first | rfl | (simp [errW_none, errW_some] <;> rfl) | (simp [*, errW_none, errW_some] <;> rfl), by repeat (first | (with_reducible first | exact HB.out | apply below_alloc | apply pw_below_drewN | apply below_drew1 | refine below_set ?_ (IsS90.ge HI195.out) | refine below_set ?_ GE190.out | refine below_set ?_ GE191.out | refine below_set ?_ GE202.out | refine below_set ?_ GE209.out) | exact HB.out)⟩

end Go.Proofs.Ytiliggbholjdjaa.PFnKeys
