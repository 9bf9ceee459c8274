-- Written by a program of this session (wip/patch.py turns a copy of the kit's print): the functions that the law reaches, and their walks.
import Derived.Test.YtlblngbhffpfoaaPFnExactFilterx0
import Derived.Test.YtlblngbhffpfoaaPFnExactFilterx1
import Derived.Test.YtlblngbhffpfoaaPFnExactFilterx2
import Derived.Test.YtlblngbhffpfoaaCFnExactFilter
namespace Go.Proofs.Ytlblngbhffpfoaa.PFnExactFilter
open Go.RowKit Go.Proofs.YtlblngbhffpfoaaW.PrintWords Go.Proofs.YtlblngbhffpfoaaW.PrintLast Go.Proofs.YtlblngbhffpfoaaW.PrintMore Go.Proofs.YtlblngbhffpfoaaW.Mine
attribute [local go_sem] max2_int min2_int max_two min_two max_three min_three max_four min_four   -- for this text's walks alone
set_option linter.unusedVariables false
set_option linter.unusedSimpArgs false

/-! ### laws_FnExactFilter: function 3 -/
def laws_FnExactFilter.f (k : Nat) (l0_0 : List (S29)) (l0_1 : List Bool) (a1_0 : Int) (a1_1 : Bool) (a1_2 : Int) (a1_3 : Int) (a1_4 : Int) (a1_5 : Int) : Option (Bool) := (laws_szMemory.f l0_0 l0_1 1048576).bind fun t195 => (if t195 < 0 then (some true) else ((laws_toMemory.f k l0_0 l0_1).bind fun bt196 => ((laws_toWord.f a1_0 a1_1 a1_2 a1_3 a1_4 a1_5).bind fun bt202 => ((spec_Filter.f bt196.1 bt196.2 bt202.1 bt202.2.1 bt202.2.2.1 bt202.2.2.2.1 bt202.2.2.2.2.1 bt202.2.2.2.2.2).bind fun bt208 => ((laws_toMemory.f k l0_0 l0_1).bind fun bt215 => ((laws_toWord.f a1_0 a1_1 a1_2 a1_3 a1_4 a1_5).bind fun bt222 => ((impl_Filter.f bt215.1 bt215.2 bt222.1 bt222.2.1 bt222.2.2.1 bt222.2.2.2.1 bt222.2.2.2.2.1 bt222.2.2.2.2.2).bind fun bt228 => ((laws_eqWord.f bt228.1 bt228.2.1 bt228.2.2.1 bt228.2.2.2.1 bt228.2.2.2.2.1 bt228.2.2.2.2.2 bt208.1 bt208.2.1 bt208.2.2.1 bt208.2.2.2.1 bt208.2.2.2.2.1 bt208.2.2.2.2.2).bind fun t235 => (if t235 = true then ((laws_toMemory.f k l0_0 l0_1).bind fun bt236 => ((laws_eqMemory.f k bt215.1 bt215.2 bt236.1 bt236.2).bind fun t242 => (if t242 = true then (some true) else (some false)))) else (some false))))))))))
theorem laws_FnExactFilter.mono : ∀ a0 a1 a2 a3 a4 a5 a6 a7 k, LeO (laws_FnExactFilter.f k a0 a1 a2 a3 a4 a5 a6 a7) (laws_FnExactFilter.f (k + 1) a0 a1 a2 a3 a4 a5 a6 a7) := by
 intro a0 a1 a2 a3 a4 a5 a6 a7 k
 unfold laws_FnExactFilter.f
 repeat' first
   | (with_reducible exact laws_eqMemory.mono _ _ _ _ _)
   | (with_reducible exact laws_toMemory.mono _ _ _)
   | (with_reducible exact LeO.refl _)
   | (with_reducible exact LeO.none _)
   | (with_reducible refine LeO.ite ?_ ?_)
   | (with_reducible refine LeO.bind ?_ (fun _ => ?_))
   | exact laws_eqMemory.mono _ _ _ _ _
   | exact laws_toMemory.mono _ _ _
   | exact LeO.none _
   | refine LeO.ite ?_ ?_
   | refine LeO.bind ?_ (fun _ => ?_)
set_option maxHeartbeats 8000000 in
set_option maxRecDepth 100000 in
theorem laws_FnExactFilter.calls (k : Nat) (A0_0 : Option Addr) (c0_0 : Nat) (l0_0 : List (S29)) (A0_1 : Option Addr) (c0_1 : Nat) (l0_1 : List Bool) (a1_0 : Int) (a1_1 : Bool) (a1_2 : Int) (a1_3 : Int) (a1_4 : Int) (a1_5 : Int) (r : Bool) (w : World) (hr0_0 : Kd.C k29 w A0_0 l0_0.length l0_0) (hc0_0 : l0_0.length ≤ c0_0) (hr0_1 : Kd.C Kd.bool w A0_1 l0_1.length l0_1) (hc0_1 : l0_1.length ≤ c0_1) (h : laws_FnExactFilter.f k l0_0 l0_1 a1_0 a1_1 a1_2 a1_3 a1_4 a1_5 = some r) :
  Calls Try.prog 3 #[.agg #[.slice A0_0 l0_0.length c0_0, .slice A0_1 l0_1.length c0_1], .agg #[.int .i64 a1_0, .bool a1_1, .int .i64 a1_2, .int .i64 a1_3, .int .i64 a1_4, .int .i64 a1_5]] w fun e w' => e = .returned (.bool r) ∧ Below w.heap.size w w' := by
 have hu25 := Try.underlying25
 have hu29 := Try.underlying29
 have hu33 := Try.underlying33
 have hu37 := Try.underlying37
 have HR0_0 := Aside0.mk hr0_0
 have HC0_0 := Aside0.mk hc0_0
 clear hr0_0 hc0_0
 have HR0_1 := Aside0.mk hr0_1
 have HC0_1 := Aside0.mk hc0_1
 clear hr0_1 hc0_1
 have HB := Aside0.mk (Below.refl w.heap.size w)
 have H : ((laws_szMemory.f l0_0 l0_1 1048576).bind fun t195 => (if t195 < 0 then (some true) else ((laws_toMemory.f k l0_0 l0_1).bind fun bt196 => ((laws_toWord.f a1_0 a1_1 a1_2 a1_3 a1_4 a1_5).bind fun bt202 => ((spec_Filter.f bt196.1 bt196.2 bt202.1 bt202.2.1 bt202.2.2.1 bt202.2.2.2.1 bt202.2.2.2.2.1 bt202.2.2.2.2.2).bind fun bt208 => ((laws_toMemory.f k l0_0 l0_1).bind fun bt215 => ((laws_toWord.f a1_0 a1_1 a1_2 a1_3 a1_4 a1_5).bind fun bt222 => ((impl_Filter.f bt215.1 bt215.2 bt222.1 bt222.2.1 bt222.2.2.1 bt222.2.2.2.1 bt222.2.2.2.2.1 bt222.2.2.2.2.2).bind fun bt228 => ((laws_eqWord.f bt228.1 bt228.2.1 bt228.2.2.1 bt228.2.2.2.1 bt228.2.2.2.2.1 bt228.2.2.2.2.2 bt208.1 bt208.2.1 bt208.2.2.1 bt208.2.2.2.1 bt208.2.2.2.2.1 bt208.2.2.2.2.2).bind fun t235 => (if t235 = true then ((laws_toMemory.f k l0_0 l0_1).bind fun bt236 => ((laws_eqMemory.f k bt215.1 bt215.2 bt236.1 bt236.2).bind fun t242 => (if t242 = true then (some true) else (some false)))) else (some false))))))))))) = some r := h
 clear h
 replace H := Option.bind_eq_some_iff.mp H
 obtain ⟨t195, A30, H⟩ := H
 replace H : (if t195 < 0 then (some true) else ((laws_toMemory.f k l0_0 l0_1).bind fun bt196 => ((laws_toWord.f a1_0 a1_1 a1_2 a1_3 a1_4 a1_5).bind fun bt202 => ((spec_Filter.f bt196.1 bt196.2 bt202.1 bt202.2.1 bt202.2.2.1 bt202.2.2.2.1 bt202.2.2.2.2.1 bt202.2.2.2.2.2).bind fun bt208 => ((laws_toMemory.f k l0_0 l0_1).bind fun bt215 => ((laws_toWord.f a1_0 a1_1 a1_2 a1_3 a1_4 a1_5).bind fun bt222 => ((impl_Filter.f bt215.1 bt215.2 bt222.1 bt222.2.1 bt222.2.2.1 bt222.2.2.2.1 bt222.2.2.2.2.1 bt222.2.2.2.2.2).bind fun bt228 => ((laws_eqWord.f bt228.1 bt228.2.1 bt228.2.2.1 bt228.2.2.2.1 bt228.2.2.2.2.1 bt228.2.2.2.2.2 bt208.1 bt208.2.1 bt208.2.2.1 bt208.2.2.2.1 bt208.2.2.2.2.1 bt208.2.2.2.2.2).bind fun t235 => (if t235 = true then ((laws_toMemory.f k l0_0 l0_1).bind fun bt236 => ((laws_eqMemory.f k bt215.1 bt215.2 bt236.1 bt236.2).bind fun t242 => (if t242 = true then (some true) else (some false)))) else (some false)))))))))) = some r := H
 have A3 := Aside0.mk A30
 clear A30
 by_cases c4 : t195 < 0
 ·rw [if_pos c4] at H
  have c4b0 : decide (t195 < 0) = true := decide_eq_true c4
  clear c4
  obtain rfl := Option.some.inj H
  go_enter Try.func3, Try.ntmps3
  go_wp2_with (first | ((with_reducible refine gate_dst (N := 2) rfl ?_); refine box_event ?hg (N := 2) ?hd (cs := #[.slice A0_0 l0_0.length c0_0, .slice A0_1 l0_1.length c0_1]) (t := 25) ?hr ?_; (case hd => rfl); (case hg => rfl); (case hr => first | (go_simp; done) | (go_simp; rfl)); intro gb193 hg w5 hbox hb; have n0_ := nbs HB hb; have n1_ := Aside0.mk (hbox); have n2_ := nge HB hg; have n3_ := nge HB hg; clear HB; have HB := n0_; have BK193 := n1_; have GW193 := n2_; have GE193 := n3_; clear n0_ n1_ n2_ n3_; clear hb hbox hg) | ((with_reducible refine gate_dst (N := 3) rfl ?_); refine box_event ?hg (N := 3) ?hd (cs := #[.int .i64 a1_0, .bool a1_1, .int .i64 a1_2, .int .i64 a1_3, .int .i64 a1_4, .int .i64 a1_5]) (t := 29) ?hr ?_; (case hd => rfl); (case hg => rfl); (case hr => first | (go_simp; done) | (go_simp; rfl)); intro gb194 hg w6 hbox hb; have n0_ := nblk BK193 hb; have n1_ := nbs HB hb; have n2_ := Aside0.mk (hbox); have n3_ := nge HB hg; have n4_ := nge HB hg; have n5_ := nlt BK193 hg; have n6_ := ngt BK193 hg; clear BK193 HB; have BK193 := n0_; have HB := n1_; have BK194 := n2_; have GW194 := n3_; have GE194 := n4_; have NB193_194 := n5_; have NB194_193 := n6_; clear n0_ n1_ n2_ n3_ n4_ n5_ n6_; clear hb hbox hg; have hnb7 := NB193_194.out; have hnc7 := NB194_193.out; have hcz8_0 : w6.cell? ⟨gb193, 0, none⟩ = some (.slice A0_0 l0_0.length c0_0) := (blk_cell BK193.out 0).trans rfl; have hcz8_1 : w6.cell? ⟨gb193, 1, none⟩ = some (.slice A0_1 l0_1.length c0_1) := (blk_cell BK193.out 1).trans rfl; have hfz8_0 := blk_frozen BK193.out 0; have hfz8_1 := blk_frozen BK193.out 1) | ((with_reducible refine gate_callee (f := 12) rfl ?_); refine goesM (some 11) rfl rfl Try.func12 (by kernel_rfl) rfl #[.agg #[.slice A0_0 l0_0.length c0_0, .slice A0_1 l0_1.length c0_1], .int .i64 1048576] rfl ?_; (with_reducible refine (laws_szMemory.calls _ _ l0_0 _ _ l0_1 1048576 t195 _ ?side1 ?side2 ?side3 ?side4 A3.out).mono ?_); (case side1 => repeat (first | exact (Kd.C_below HR0_0.out HB.out) | (with_reducible refine Kd.C_alloc ?_ _) | (with_reducible refine Kd.C_drewN ?_ _) | (with_reducible refine Kd.C_drew ?_))); (case side2 => exact HC0_0.out); (case side3 => repeat (first | exact (Kd.C_below HR0_1.out HB.out) | (with_reducible refine Kd.C_alloc ?_ _) | (with_reducible refine Kd.C_drewN ?_ _) | (with_reducible refine Kd.C_drew ?_))); (case side4 => exact HC0_1.out); rintro e w9 ⟨rfl, hb⟩; refine ⟨_, rfl, ?_⟩; have n0_ := nblk BK193 hb; have n1_ := nblk BK194 hb; have n2_ := nbs HB hb; clear BK193 BK194 HB; have BK193 := n0_; have BK194 := n1_; have HB := n2_; clear n0_ n1_ n2_; (try clear hb)))
  go_ret
  exact ⟨by first | rfl | (simp [errW_none, errW_some] <;> rfl) | (simp [*, errW_none, errW_some] <;> rfl), by repeat (first | (with_reducible first | exact HB.out | apply below_alloc | apply pw_below_drewN | apply below_drew1 | refine below_set ?_ GE193.out | refine below_set ?_ GE194.out) | exact HB.out)⟩
 ·rw [if_neg c4] at H
  have c4b0 : decide (t195 < 0) = false := decide_eq_false c4
  clear c4
  replace H := Option.bind_eq_some_iff.mp H
  obtain ⟨⟨t196, t199⟩, A100, H⟩ := H
  replace H : ((laws_toWord.f a1_0 a1_1 a1_2 a1_3 a1_4 a1_5).bind fun bt202 => ((spec_Filter.f t196 t199 bt202.1 bt202.2.1 bt202.2.2.1 bt202.2.2.2.1 bt202.2.2.2.2.1 bt202.2.2.2.2.2).bind fun bt208 => ((laws_toMemory.f k l0_0 l0_1).bind fun bt215 => ((laws_toWord.f a1_0 a1_1 a1_2 a1_3 a1_4 a1_5).bind fun bt222 => ((impl_Filter.f bt215.1 bt215.2 bt222.1 bt222.2.1 bt222.2.2.1 bt222.2.2.2.1 bt222.2.2.2.2.1 bt222.2.2.2.2.2).bind fun bt228 => ((laws_eqWord.f bt228.1 bt228.2.1 bt228.2.2.1 bt228.2.2.2.1 bt228.2.2.2.2.1 bt228.2.2.2.2.2 bt208.1 bt208.2.1 bt208.2.2.1 bt208.2.2.2.1 bt208.2.2.2.2.1 bt208.2.2.2.2.2).bind fun t235 => (if t235 = true then ((laws_toMemory.f k l0_0 l0_1).bind fun bt236 => ((laws_eqMemory.f k bt215.1 bt215.2 bt236.1 bt236.2).bind fun t242 => (if t242 = true then (some true) else (some false)))) else (some false)))))))) = some r := H
  have A10 := Aside0.mk A100
  clear A100
  replace H := Option.bind_eq_some_iff.mp H
  obtain ⟨⟨t202, t203, t204, t205, t206, t207⟩, A110, H⟩ := H
  replace H : ((spec_Filter.f t196 t199 t202 t203 t204 t205 t206 t207).bind fun bt208 => ((laws_toMemory.f k l0_0 l0_1).bind fun bt215 => ((laws_toWord.f a1_0 a1_1 a1_2 a1_3 a1_4 a1_5).bind fun bt222 => ((impl_Filter.f bt215.1 bt215.2 bt222.1 bt222.2.1 bt222.2.2.1 bt222.2.2.2.1 bt222.2.2.2.2.1 bt222.2.2.2.2.2).bind fun bt228 => ((laws_eqWord.f bt228.1 bt228.2.1 bt228.2.2.1 bt228.2.2.2.1 bt228.2.2.2.2.1 bt228.2.2.2.2.2 bt208.1 bt208.2.1 bt208.2.2.1 bt208.2.2.2.1 bt208.2.2.2.2.1 bt208.2.2.2.2.2).bind fun t235 => (if t235 = true then ((laws_toMemory.f k l0_0 l0_1).bind fun bt236 => ((laws_eqMemory.f k bt215.1 bt215.2 bt236.1 bt236.2).bind fun t242 => (if t242 = true then (some true) else (some false)))) else (some false))))))) = some r := H
  have A11 := Aside0.mk A110
  clear A110
  replace H := Option.bind_eq_some_iff.mp H
  obtain ⟨⟨t208, t209, t210, t211, t212, t213⟩, A120, H⟩ := H
  replace H : ((laws_toMemory.f k l0_0 l0_1).bind fun bt215 => ((laws_toWord.f a1_0 a1_1 a1_2 a1_3 a1_4 a1_5).bind fun bt222 => ((impl_Filter.f bt215.1 bt215.2 bt222.1 bt222.2.1 bt222.2.2.1 bt222.2.2.2.1 bt222.2.2.2.2.1 bt222.2.2.2.2.2).bind fun bt228 => ((laws_eqWord.f bt228.1 bt228.2.1 bt228.2.2.1 bt228.2.2.2.1 bt228.2.2.2.2.1 bt228.2.2.2.2.2 t208 t209 t210 t211 t212 t213).bind fun t235 => (if t235 = true then ((laws_toMemory.f k l0_0 l0_1).bind fun bt236 => ((laws_eqMemory.f k bt215.1 bt215.2 bt236.1 bt236.2).bind fun t242 => (if t242 = true then (some true) else (some false)))) else (some false)))))) = some r := H
  have A12 := Aside0.mk A120
  clear A120
  replace H := Option.bind_eq_some_iff.mp H
  obtain ⟨⟨t215, t218⟩, A130, H⟩ := H
  replace H : ((laws_toWord.f a1_0 a1_1 a1_2 a1_3 a1_4 a1_5).bind fun bt222 => ((impl_Filter.f t215 t218 bt222.1 bt222.2.1 bt222.2.2.1 bt222.2.2.2.1 bt222.2.2.2.2.1 bt222.2.2.2.2.2).bind fun bt228 => ((laws_eqWord.f bt228.1 bt228.2.1 bt228.2.2.1 bt228.2.2.2.1 bt228.2.2.2.2.1 bt228.2.2.2.2.2 t208 t209 t210 t211 t212 t213).bind fun t235 => (if t235 = true then ((laws_toMemory.f k l0_0 l0_1).bind fun bt236 => ((laws_eqMemory.f k t215 t218 bt236.1 bt236.2).bind fun t242 => (if t242 = true then (some true) else (some false)))) else (some false))))) = some r := H
  have A13 := Aside0.mk A130
  clear A130
  replace H := Option.bind_eq_some_iff.mp H
  obtain ⟨⟨t222, t223, t224, t225, t226, t227⟩, A140, H⟩ := H
  replace H : ((impl_Filter.f t215 t218 t222 t223 t224 t225 t226 t227).bind fun bt228 => ((laws_eqWord.f bt228.1 bt228.2.1 bt228.2.2.1 bt228.2.2.2.1 bt228.2.2.2.2.1 bt228.2.2.2.2.2 t208 t209 t210 t211 t212 t213).bind fun t235 => (if t235 = true then ((laws_toMemory.f k l0_0 l0_1).bind fun bt236 => ((laws_eqMemory.f k t215 t218 bt236.1 bt236.2).bind fun t242 => (if t242 = true then (some true) else (some false)))) else (some false)))) = some r := H
  have A14 := Aside0.mk A140
  clear A140
  replace H := Option.bind_eq_some_iff.mp H
  obtain ⟨⟨t228, t229, t230, t231, t232, t233⟩, A150, H⟩ := H
  replace H : ((laws_eqWord.f t228 t229 t230 t231 t232 t233 t208 t209 t210 t211 t212 t213).bind fun t235 => (if t235 = true then ((laws_toMemory.f k l0_0 l0_1).bind fun bt236 => ((laws_eqMemory.f k t215 t218 bt236.1 bt236.2).bind fun t242 => (if t242 = true then (some true) else (some false)))) else (some false))) = some r := H
  have A15 := Aside0.mk A150
  clear A150
  replace H := Option.bind_eq_some_iff.mp H
  obtain ⟨t235, A160, H⟩ := H
  replace H : (if t235 = true then ((laws_toMemory.f k l0_0 l0_1).bind fun bt236 => ((laws_eqMemory.f k t215 t218 bt236.1 bt236.2).bind fun t242 => (if t242 = true then (some true) else (some false)))) else (some false)) = some r := H
  have A16 := Aside0.mk A160
  clear A160
  by_cases c17 : t235 = true
  ·subst c17
   have H1 : ((laws_toMemory.f k l0_0 l0_1).bind fun bt236 => ((laws_eqMemory.f k t215 t218 bt236.1 bt236.2).bind fun t242 => (if t242 = true then (some true) else (some false)))) = some r := by rw [if_pos rfl] at H; exact H
   clear H
   have H := H1
   clear H1
   replace H := Option.bind_eq_some_iff.mp H
   obtain ⟨⟨t236, t239⟩, A180, H⟩ := H
   replace H : ((laws_eqMemory.f k t215 t218 t236 t239).bind fun t242 => (if t242 = true then (some true) else (some false))) = some r := H
   have A18 := Aside0.mk A180
   clear A180
   replace H := Option.bind_eq_some_iff.mp H
   obtain ⟨t242, A190, H⟩ := H
   replace H : (if t242 = true then (some true) else (some false)) = some r := H
   have A19 := Aside0.mk A190
   clear A190
   by_cases c20 : t242 = true
   ·subst c20
    have H1 : (some true) = some r := by rw [if_pos rfl] at H; exact H
    clear H
    have H := H1
    clear H1
    obtain rfl := Option.some.inj H
    go_enter Try.func3, Try.ntmps3
    try go_wp2_with (first | ((with_reducible refine gate_dst (N := 2) rfl ?_); refine box_event ?hg (N := 2) ?hd (cs := #[.slice A0_0 l0_0.length c0_0, .slice A0_1 l0_1.length c0_1]) (t := 25) ?hr ?_; (case hd => rfl); (case hg => rfl); (case hr => first | (go_simp; done) | (go_simp; rfl)); intro gb193 hg w21 hbox hb; have n0_ := nbs HB hb; have n1_ := Aside0.mk (hbox); have n2_ := nge HB hg; have n3_ := nge HB hg; clear HB; have HB := n0_; have BK193 := n1_; have GW193 := n2_; have GE193 := n3_; clear n0_ n1_ n2_ n3_; clear hb hbox hg) | ((with_reducible refine gate_dst (N := 3) rfl ?_); refine box_event ?hg (N := 3) ?hd (cs := #[.int .i64 a1_0, .bool a1_1, .int .i64 a1_2, .int .i64 a1_3, .int .i64 a1_4, .int .i64 a1_5]) (t := 29) ?hr ?_; (case hd => rfl); (case hg => rfl); (case hr => first | (go_simp; done) | (go_simp; rfl)); intro gb194 hg w22 hbox hb; have n0_ := nblk BK193 hb; have n1_ := nbs HB hb; have n2_ := Aside0.mk (hbox); have n3_ := nge HB hg; have n4_ := nge HB hg; have n5_ := nlt BK193 hg; have n6_ := ngt BK193 hg; clear BK193 HB; have BK193 := n0_; have HB := n1_; have BK194 := n2_; have GW194 := n3_; have GE194 := n4_; have NB193_194 := n5_; have NB194_193 := n6_; clear n0_ n1_ n2_ n3_ n4_ n5_ n6_; clear hb hbox hg; have hnb23 := NB193_194.out; have hnc23 := NB194_193.out; have hcz24_0 : w22.cell? ⟨gb193, 0, none⟩ = some (.slice A0_0 l0_0.length c0_0) := (blk_cell BK193.out 0).trans rfl; have hcz24_1 : w22.cell? ⟨gb193, 1, none⟩ = some (.slice A0_1 l0_1.length c0_1) := (blk_cell BK193.out 1).trans rfl; have hfz24_0 := blk_frozen BK193.out 0; have hfz24_1 := blk_frozen BK193.out 1) | ((with_reducible refine gate_callee (f := 12) rfl ?_); refine goesM (some 11) rfl rfl Try.func12 (by kernel_rfl) rfl #[.agg #[.slice A0_0 l0_0.length c0_0, .slice A0_1 l0_1.length c0_1], .int .i64 1048576] rfl ?_; (with_reducible refine (laws_szMemory.calls _ _ l0_0 _ _ l0_1 1048576 t195 _ ?side1 ?side2 ?side3 ?side4 A3.out).mono ?_); (case side1 => repeat (first | exact (Kd.C_below HR0_0.out HB.out) | (with_reducible refine Kd.C_alloc ?_ _) | (with_reducible refine Kd.C_drewN ?_ _) | (with_reducible refine Kd.C_drew ?_))); (case side2 => exact HC0_0.out); (case side3 => repeat (first | exact (Kd.C_below HR0_1.out HB.out) | (with_reducible refine Kd.C_alloc ?_ _) | (with_reducible refine Kd.C_drewN ?_ _) | (with_reducible refine Kd.C_drew ?_))); (case side4 => exact HC0_1.out); rintro e w25 ⟨rfl, hb⟩; refine ⟨_, rfl, ?_⟩; have n0_ := nblk BK193 hb; have n1_ := nblk BK194 hb; have n2_ := nbs HB hb; clear BK193 BK194 HB; have BK193 := n0_; have BK194 := n1_; have HB := n2_; clear n0_ n1_ n2_; (try clear hb)))
    have n0_ := Aside0.mk (blk_drew BK193.out)
    have n1_ := Aside0.mk (blk_drew BK194.out)
    have n2_ := Aside0.mk (below_drew1 HB.out)
    clear BK193 BK194 HB
    have BK193 := n0_
    have BK194 := n1_
    have HB := n2_
    clear n0_ n1_ n2_
    refine start_ (n := 7) (S := fun w' => w'.cell? ⟨gb193, 0, none⟩ = some (.slice A0_0 l0_0.length c0_0) ∧ w'.cell? ⟨gb193, 1, none⟩ = some (.slice A0_1 l0_1.length c0_1) ∧ w'.cell? ⟨gb194, 0, none⟩ = some (.int .i64 a1_0) ∧ w'.cell? ⟨gb194, 1, none⟩ = some (.bool a1_1) ∧ w'.cell? ⟨gb194, 2, none⟩ = some (.int .i64 a1_2) ∧ w'.cell? ⟨gb194, 3, none⟩ = some (.int .i64 a1_3) ∧ w'.cell? ⟨gb194, 4, none⟩ = some (.int .i64 a1_4) ∧ w'.cell? ⟨gb194, 5, none⟩ = some (.int .i64 a1_5)) (ds := []) #[false, false, false, false, false, false, false] (by kernel_rfl) rfl rfl (c2 BK193 (c6e BK194)) (fun hHeld => ?_)
    generalize w25.drew = w26 at BK193 BK194 HB hHeld ⊢
    refine take_ (i := 0) (N := some 14) (v := ?_) (a' := ?_) #[true, false, false, false, false, false, false] rfl rfl (by kernel_rfl) (fun _ _ _ h => h) (Or.inl ⟨by rfl, ?_⟩) hHeld ?_ ?_
    rotate_left
    ·rintro w' ⟨s0, s1, s2, s3, s4, s5, s6, s7⟩
     go_simp
     with_reducible rfl
    rotate_left
    ·simp only [Act.put, List.setIfInBounds_toArray, List.set_cons_zero, List.set_cons_succ, i64_w, i32_w]
     rfl
    refine take_ (i := 2) (N := some 16) (v := ?_) (a' := ?_) #[true, false, true, false, false, false, false] rfl rfl (by kernel_rfl) (fun _ _ _ h => h) (Or.inl ⟨by rfl, ?_⟩) hHeld ?_ ?_
    rotate_left
    ·rintro w' ⟨s0, s1, s2, s3, s4, s5, s6, s7⟩
     go_simp
     with_reducible rfl
    rotate_left
    ·simp only [Act.put, List.setIfInBounds_toArray, List.set_cons_zero, List.set_cons_succ, i64_w, i32_w]
     rfl
    refine join_ (σ := Value × Value × Nat) 1 #[true, true, true, true, true, true, false] (fun s_ => [(15, .agg #[s_.1, s_.2.1]), (17, .agg #[.int .i64 t202, .bool t203, .int .i64 t204, .int .i64 t205, .int .i64 t206, .int .i64 t207]), (18, .agg #[.int .i64 t208, .bool t209, .int .i64 t210, .int .i64 t211, .int .i64 t212, .int .i64 t213]), (6, .pointer (some ⟨s_.2.2, 0, none⟩))]) (fun s_ w' => (w'.cell? ⟨gb193, 0, none⟩ = some (.slice A0_0 l0_0.length c0_0) ∧ w'.cell? ⟨gb193, 1, none⟩ = some (.slice A0_1 l0_1.length c0_1) ∧ w'.cell? ⟨gb194, 0, none⟩ = some (.int .i64 a1_0) ∧ w'.cell? ⟨gb194, 1, none⟩ = some (.bool a1_1) ∧ w'.cell? ⟨gb194, 2, none⟩ = some (.int .i64 a1_2) ∧ w'.cell? ⟨gb194, 3, none⟩ = some (.int .i64 a1_3) ∧ w'.cell? ⟨gb194, 4, none⟩ = some (.int .i64 a1_4) ∧ w'.cell? ⟨gb194, 5, none⟩ = some (.int .i64 a1_5)) ∧ (Kd.R k33 33 w' w.heap.size (fun k_ => k_ ≠ s_.2.2) s_.1 t196) ∧ (Kd.R Kd.bool 4 w' w.heap.size (fun _ => True) s_.2.1 t199) ∧ (w'.heap[gb193]? = some (.cells #[.slice A0_0 l0_0.length c0_0, .slice A0_1 l0_1.length c0_1] 25 (0, 0))) ∧ (w'.heap[gb194]? = some (.cells #[.int .i64 a1_0, .bool a1_1, .int .i64 a1_2, .int .i64 a1_3, .int .i64 a1_4, .int .i64 a1_5] 29 (0, 0))) ∧ (w'.heap[s_.2.2]? = some (.cells #[.int .i64 0, .bool false, .int .i64 0, .int .i64 0, .int .i64 0, .int .i64 0] 33 (0, 0))) ∧ (w.heap.size ≤ s_.2.2) ∧ (w.heap.size ≤ s_.2.2) ∧ (gb193 ≠ s_.2.2) ∧ (s_.2.2 ≠ gb193) ∧ (gb194 ≠ s_.2.2) ∧ (s_.2.2 ≠ gb194) ∧ (Below w.heap.size w w')) ?_ ?_
    rotate_left
    ·intro hCont
     refine two_ (i := 1) (j := 5) (Ni := some 15) (Nj := some 6) #[true, true, true, false, false, false, false] #[true, false, true, false, false, true, false] rfl rfl rfl rfl (by kernel_rfl) (by decide) (by decide) (fun K hK => ?_) (fun K hK => ?_)
     ·skip
      refine goesR Try.func14 (by kernel_rfl) rfl #[.agg #[.slice A0_0 l0_0.length c0_0, .slice A0_1 l0_1.length c0_1]] (by rfl) rfl rfl ?_
      with_reducible refine (laws_toMemory.calls k _ _ l0_0 _ _ l0_1 t196 t199 _ ?side1 ?side2 ?side3 ?side4 A10.out).mono ?_
      (case side1 => repeat (first | exact (Kd.C_below HR0_0.out HB.out) | (with_reducible refine Kd.C_alloc ?_ _) | (with_reducible refine Kd.C_drewN ?_ _) | (with_reducible refine Kd.C_drew ?_)))
      (case side2 => exact HC0_0.out)
      (case side3 => repeat (first | exact (Kd.C_below HR0_1.out HB.out) | (with_reducible refine Kd.C_alloc ?_ _) | (with_reducible refine Kd.C_drewN ?_ _) | (with_reducible refine Kd.C_drew ?_)))
      (case side4 => exact HC0_1.out)
      rintro e w27 ⟨v197, v200, rfl, ho0, ho1, hb⟩
      refine ⟨_, rfl, ?_⟩
      have n0_ := Aside0.mk (Kd.R_lower ho0 (below_size (by repeat (first | (with_reducible first | exact HB.out | apply below_alloc | apply pw_below_drewN | apply below_drew1 | refine below_set ?_ GE193.out | refine below_set ?_ GE194.out) | exact HB.out))))
      have n1_ := Aside0.mk (Kd.R_lower ho1 (below_size (by repeat (first | (with_reducible first | exact HB.out | apply below_alloc | apply pw_below_drewN | apply below_drew1 | refine below_set ?_ GE193.out | refine below_set ?_ GE194.out) | exact HB.out))))
      have n2_ := nblk BK193 hb
      have n3_ := nblk BK194 hb
      have n4_ := nbs HB hb
      clear BK193 BK194 HB
      have HO198 := n0_
      have HO201 := n1_
      have BK193 := n2_
      have BK194 := n3_
      have HB := n4_
      clear n0_ n1_ n2_ n3_ n4_
      (try clear hb)
      (try clear ho0)
      (try clear ho1)
      refine hK.out _ _ (c2 BK193 (c6e BK194)) (fun hHeld => ?_)
      clear hK K
      refine norm_ (a' := ?_) ?_ ?_
      rotate_left
      ·show Act.put _ (some 15) _ = _
       simp only [Act.put, List.setIfInBounds_toArray, List.set_cons_zero, List.set_cons_succ, i64_w, i32_w]
       rfl
      refine two_ (i := 3) (j := 5) (Ni := some 17) (Nj := some 6) #[true, true, true, true, false, false, false] #[true, true, true, false, false, true, false] rfl rfl rfl rfl (by kernel_rfl) (by decide) (by decide) (fun K hK => ?_) (fun K hK => ?_)
      ·skip
       refine goesR Try.func15 (by kernel_rfl) rfl #[.agg #[.int .i64 a1_0, .bool a1_1, .int .i64 a1_2, .int .i64 a1_3, .int .i64 a1_4, .int .i64 a1_5]] (by rfl) rfl rfl ?_
       with_reducible refine (laws_toWord.calls a1_0 a1_1 a1_2 a1_3 a1_4 a1_5 t202 t203 t204 t205 t206 t207 _ A11.out).mono ?_
       rintro e w28 ⟨rfl, hb⟩
       refine ⟨_, rfl, ?_⟩
       have n0_ := nR HO198 hb
       have n1_ := nR HO201 hb
       have n2_ := nblk BK193 hb
       have n3_ := nblk BK194 hb
       have n4_ := nbs HB hb
       clear HO198 HO201 BK193 BK194 HB
       have HO198 := n0_
       have HO201 := n1_
       have BK193 := n2_
       have BK194 := n3_
       have HB := n4_
       clear n0_ n1_ n2_ n3_ n4_
       (try clear hb)
       obtain ⟨Ao29, co29, eo29⟩ := Kd.R_slice HO198.out
       (first | subst eo29 | (injection eo29 with f1_ f2_ f3_; have f4_ := f1_.symm; have f5_ := f3_.symm; clear f1_ f2_ f3_; subst f4_; subst f5_))
       obtain ⟨Ao30, co30, eo30⟩ := Kd.R_slice HO201.out
       (first | subst eo30 | (injection eo30 with f1_ f2_ f3_; have f4_ := f1_.symm; have f5_ := f3_.symm; clear f1_ f2_ f3_; subst f4_; subst f5_))
       refine hK.out _ _ (c2 BK193 (c6e BK194)) (fun hHeld => ?_)
       clear hK K
       refine norm_ (a' := ?_) ?_ ?_
       rotate_left
       ·show Act.put _ (some 17) _ = _
        simp only [Act.put, List.setIfInBounds_toArray, List.set_cons_zero, List.set_cons_succ, i64_w, i32_w]
        rfl
       refine two_ (i := 4) (j := 5) (Ni := some 18) (Nj := some 6) #[true, true, true, true, true, false, false] #[true, true, true, true, false, true, false] rfl rfl rfl rfl (by kernel_rfl) (by decide) (by decide) (fun K hK => ?_) (fun K hK => ?_)
       ·skip
        refine goesR Try.func13 (by kernel_rfl) rfl #[.agg #[.slice Ao29 t196.length co29, .slice Ao30 t199.length co30], .agg #[.int .i64 t202, .bool t203, .int .i64 t204, .int .i64 t205, .int .i64 t206, .int .i64 t207]] (by rfl) rfl rfl ?_
        with_reducible refine (spec_Filter.calls _ _ t196 _ _ t199 t202 t203 t204 t205 t206 t207 t208 t209 t210 t211 t212 t213 _ ?side1 ?side2 ?side3 ?side4 A12.out).mono ?_
        (case side1 => repeat (first | exact (Kd.R_reads' HO198.out).2.2 | (with_reducible refine Kd.C_alloc ?_ _) | (with_reducible refine Kd.C_drewN ?_ _) | (with_reducible refine Kd.C_drew ?_)))
        (case side2 => exact (Kd.R_reads' HO198.out).2.1)
        (case side3 => repeat (first | exact (Kd.R_reads' HO201.out).2.2 | (with_reducible refine Kd.C_alloc ?_ _) | (with_reducible refine Kd.C_drewN ?_ _) | (with_reducible refine Kd.C_drew ?_)))
        (case side4 => exact (Kd.R_reads' HO201.out).2.1)
        rintro e w31 ⟨rfl, hb⟩
        refine ⟨_, rfl, ?_⟩
        have n0_ := nR HO198 hb
        have n1_ := nR HO201 hb
        have n2_ := nblk BK193 hb
        have n3_ := nblk BK194 hb
        have n4_ := nbs HB hb
        clear HO198 HO201 BK193 BK194 HB
        have HO198 := n0_
        have HO201 := n1_
        have BK193 := n2_
        have BK194 := n3_
        have HB := n4_
        clear n0_ n1_ n2_ n3_ n4_
        (try clear hb)
        refine hK.out _ _ (c2 BK193 (c6e BK194)) (fun hHeld => ?_)
        clear hK K
        refine norm_ (a' := ?_) ?_ ?_
        rotate_left
        ·show Act.put _ (some 18) _ = _
         simp only [Act.put, List.setIfInBounds_toArray, List.set_cons_zero, List.set_cons_succ, i64_w, i32_w]
         rfl
        refine one_ (i := 5) (N := some 6) #[true, true, true, true, true, true, false] rfl rfl (by kernel_rfl) (by decide) (fun K hK => ?_)
        refine box_step ?hg (N := 6) ?hd (cs := #[.int .i64 0, .bool false, .int .i64 0, .int .i64 0, .int .i64 0, .int .i64 0]) (t := 33) ?hr ?_; (case hd => rfl); (case hg => rfl); (case hr => first | (go_simp; done) | (go_simp; rfl))
        intro gb214 hg w32 hbox hb
        have n0_ := Aside0.mk (Kd.R_below (Kd.R_elderB (nRo HO198) gb214 (Nat.le_of_eq hg.symm)) hb)
        have n1_ := nR HO201 hb
        have n2_ := nblk BK193 hb
        have n3_ := nblk BK194 hb
        have n4_ := nbs HB hb
        have n5_ := Aside0.mk (hbox)
        have n6_ := nge HB hg
        have n7_ := nge HB hg
        have n8_ := nlt BK193 hg
        have n9_ := ngt BK193 hg
        have n10_ := nlt BK194 hg
        have n11_ := ngt BK194 hg
        clear HO198 HO201 BK193 BK194 HB
        have HO198 := n0_
        have HO201 := n1_
        have BK193 := n2_
        have BK194 := n3_
        have HB := n4_
        have BK214 := n5_
        have GW214 := n6_
        have GE214 := n7_
        have NB193_214 := n8_
        have NB214_193 := n9_
        have NB194_214 := n10_
        have NB214_194 := n11_
        clear n0_ n1_ n2_ n3_ n4_ n5_ n6_ n7_ n8_ n9_ n10_ n11_
        clear hb hbox hg
        refine hK.out _ _ (c2 BK193 (c6e BK194)) (fun hHeld => ?_)
        clear hK K
        refine norm_ (a' := ?_) ?_ ?_
        rotate_left
        ·show Act.put _ (some 6) _ = _
         simp only [Act.put, List.setIfInBounds_toArray, List.set_cons_zero, List.set_cons_succ, i64_w, i32_w]
         rfl
        exact norm_ (by simp only [putAll, Act.put, List.setIfInBounds_toArray, List.set_cons_zero, List.set_cons_succ]) (hCont (.slice Ao29 t196.length co29, .slice Ao30 t199.length co30, gb214) _ ⟨hHeld, (by (with_reducible repeat (first | apply Kd.R_alloc | apply Kd.R_drewN | apply Kd.R_drew)); exact Kd.R_mono HO198.out (fun _ hk => hk.2)), (nRo HO201), (nb BK193), (nb BK194), (nb BK214), GW214.out, GE214.out, NB193_214.out, NB214_193.out, NB194_214.out, NB214_194.out, (by repeat (first | (with_reducible first | exact HB.out | apply below_alloc | apply pw_below_drewN | apply below_drew1 | refine below_set ?_ GE193.out | refine below_set ?_ GE194.out | refine below_set ?_ GE214.out) | exact HB.out))⟩)
       ·skip
        refine box_step ?hg (N := 6) ?hd (cs := #[.int .i64 0, .bool false, .int .i64 0, .int .i64 0, .int .i64 0, .int .i64 0]) (t := 33) ?hr ?_; (case hd => rfl); (case hg => rfl); (case hr => first | (go_simp; done) | (go_simp; rfl))
        intro gb214 hg w29 hbox hb
        have n0_ := Aside0.mk (Kd.R_below (Kd.R_elderB (nRo HO198) gb214 (Nat.le_of_eq hg.symm)) hb)
        have n1_ := nR HO201 hb
        have n2_ := nblk BK193 hb
        have n3_ := nblk BK194 hb
        have n4_ := nbs HB hb
        have n5_ := Aside0.mk (hbox)
        have n6_ := nge HB hg
        have n7_ := nge HB hg
        have n8_ := nlt BK193 hg
        have n9_ := ngt BK193 hg
        have n10_ := nlt BK194 hg
        have n11_ := ngt BK194 hg
        clear HO198 HO201 BK193 BK194 HB
        have HO198 := n0_
        have HO201 := n1_
        have BK193 := n2_
        have BK194 := n3_
        have HB := n4_
        have BK214 := n5_
        have GW214 := n6_
        have GE214 := n7_
        have NB193_214 := n8_
        have NB214_193 := n9_
        have NB194_214 := n10_
        have NB214_194 := n11_
        clear n0_ n1_ n2_ n3_ n4_ n5_ n6_ n7_ n8_ n9_ n10_ n11_
        clear hb hbox hg
        obtain ⟨Ao30, co30, eo30⟩ := Kd.R_slice HO198.out
        (first | subst eo30 | (injection eo30 with f1_ f2_ f3_; have f4_ := f1_.symm; have f5_ := f3_.symm; clear f1_ f2_ f3_; subst f4_; subst f5_))
        obtain ⟨Ao31, co31, eo31⟩ := Kd.R_slice HO201.out
        (first | subst eo31 | (injection eo31 with f1_ f2_ f3_; have f4_ := f1_.symm; have f5_ := f3_.symm; clear f1_ f2_ f3_; subst f4_; subst f5_))
        refine hK.out _ _ (c2 BK193 (c6e BK194)) (fun hHeld => ?_)
        clear hK K
        refine norm_ (a' := ?_) ?_ ?_
        rotate_left
        ·show Act.put _ (some 6) _ = _
         simp only [Act.put, List.setIfInBounds_toArray, List.set_cons_zero, List.set_cons_succ, i64_w, i32_w]
         rfl
        refine one_ (i := 4) (N := some 18) #[true, true, true, true, true, true, false] rfl rfl (by kernel_rfl) (by decide) (fun K hK => ?_)
        refine goesR Try.func13 (by kernel_rfl) rfl #[.agg #[.slice Ao30 t196.length co30, .slice Ao31 t199.length co31], .agg #[.int .i64 t202, .bool t203, .int .i64 t204, .int .i64 t205, .int .i64 t206, .int .i64 t207]] (by rfl) rfl rfl ?_
        with_reducible refine (spec_Filter.calls _ _ t196 _ _ t199 t202 t203 t204 t205 t206 t207 t208 t209 t210 t211 t212 t213 _ ?side1 ?side2 ?side3 ?side4 A12.out).mono ?_
        (case side1 => repeat (first | exact (Kd.R_reads' HO198.out).2.2 | (with_reducible refine Kd.C_alloc ?_ _) | (with_reducible refine Kd.C_drewN ?_ _) | (with_reducible refine Kd.C_drew ?_)))
        (case side2 => exact (Kd.R_reads' HO198.out).2.1)
        (case side3 => repeat (first | exact (Kd.R_reads' HO201.out).2.2 | (with_reducible refine Kd.C_alloc ?_ _) | (with_reducible refine Kd.C_drewN ?_ _) | (with_reducible refine Kd.C_drew ?_)))
        (case side4 => exact (Kd.R_reads' HO201.out).2.1)
        rintro e w32 ⟨rfl, hb⟩
        refine ⟨_, rfl, ?_⟩
        have n0_ := nR HO198 hb
        have n1_ := nR HO201 hb
        have n2_ := nblk BK193 hb
        have n3_ := nblk BK194 hb
        have n4_ := nblk BK214 hb
        have n5_ := nbs HB hb
        clear HO198 HO201 BK193 BK194 BK214 HB
        have HO198 := n0_
        have HO201 := n1_
        have BK193 := n2_
        have BK194 := n3_
        have BK214 := n4_
        have HB := n5_
        clear n0_ n1_ n2_ n3_ n4_ n5_
        (try clear hb)
        refine hK.out _ _ (c2 BK193 (c6e BK194)) (fun hHeld => ?_)
        clear hK K
        refine norm_ (a' := ?_) ?_ ?_
        rotate_left
        ·show Act.put _ (some 18) _ = _
         simp only [Act.put, List.setIfInBounds_toArray, List.set_cons_zero, List.set_cons_succ, i64_w, i32_w]
         rfl
        exact norm_ (by simp only [putAll, Act.put, List.setIfInBounds_toArray, List.set_cons_zero, List.set_cons_succ]) (hCont (.slice Ao30 t196.length co30, .slice Ao31 t199.length co31, gb214) _ ⟨hHeld, (by (with_reducible repeat (first | apply Kd.R_alloc | apply Kd.R_drewN | apply Kd.R_drew)); exact Kd.R_mono HO198.out (fun _ hk => hk.2)), (nRo HO201), (nb BK193), (nb BK194), (nb BK214), GW214.out, GE214.out, NB193_214.out, NB214_193.out, NB194_214.out, NB214_194.out, (by repeat (first | (with_reducible first | exact HB.out | apply below_alloc | apply pw_below_drewN | apply below_drew1 | refine below_set ?_ GE193.out | refine below_set ?_ GE194.out | refine below_set ?_ GE214.out) | exact HB.out))⟩)
      ·skip
       refine box_step ?hg (N := 6) ?hd (cs := #[.int .i64 0, .bool false, .int .i64 0, .int .i64 0, .int .i64 0, .int .i64 0]) (t := 33) ?hr ?_; (case hd => rfl); (case hg => rfl); (case hr => first | (go_simp; done) | (go_simp; rfl))
       intro gb214 hg w28 hbox hb
       have n0_ := Aside0.mk (Kd.R_below (Kd.R_elderB (nRo HO198) gb214 (Nat.le_of_eq hg.symm)) hb)
       have n1_ := nR HO201 hb
       have n2_ := nblk BK193 hb
       have n3_ := nblk BK194 hb
       have n4_ := nbs HB hb
       have n5_ := Aside0.mk (hbox)
       have n6_ := nge HB hg
       have n7_ := nge HB hg
       have n8_ := nlt BK193 hg
       have n9_ := ngt BK193 hg
       have n10_ := nlt BK194 hg
       have n11_ := ngt BK194 hg
       clear HO198 HO201 BK193 BK194 HB
       have HO198 := n0_
       have HO201 := n1_
       have BK193 := n2_
       have BK194 := n3_
       have HB := n4_
       have BK214 := n5_
       have GW214 := n6_
       have GE214 := n7_
       have NB193_214 := n8_
       have NB214_193 := n9_
       have NB194_214 := n10_
       have NB214_194 := n11_
       clear n0_ n1_ n2_ n3_ n4_ n5_ n6_ n7_ n8_ n9_ n10_ n11_
       clear hb hbox hg
       refine hK.out _ _ (c2 BK193 (c6e BK194)) (fun hHeld => ?_)
       clear hK K
       refine norm_ (a' := ?_) ?_ ?_
       rotate_left
       ·show Act.put _ (some 6) _ = _
        simp only [Act.put, List.setIfInBounds_toArray, List.set_cons_zero, List.set_cons_succ, i64_w, i32_w]
        rfl
       refine one_ (i := 3) (N := some 17) #[true, true, true, true, false, true, false] rfl rfl (by kernel_rfl) (by decide) (fun K hK => ?_)
       refine goesR Try.func15 (by kernel_rfl) rfl #[.agg #[.int .i64 a1_0, .bool a1_1, .int .i64 a1_2, .int .i64 a1_3, .int .i64 a1_4, .int .i64 a1_5]] (by rfl) rfl rfl ?_
       with_reducible refine (laws_toWord.calls a1_0 a1_1 a1_2 a1_3 a1_4 a1_5 t202 t203 t204 t205 t206 t207 _ A11.out).mono ?_
       rintro e w29 ⟨rfl, hb⟩
       refine ⟨_, rfl, ?_⟩
       have n0_ := nR HO198 hb
       have n1_ := nR HO201 hb
       have n2_ := nblk BK193 hb
       have n3_ := nblk BK194 hb
       have n4_ := nblk BK214 hb
       have n5_ := nbs HB hb
       clear HO198 HO201 BK193 BK194 BK214 HB
       have HO198 := n0_
       have HO201 := n1_
       have BK193 := n2_
       have BK194 := n3_
       have BK214 := n4_
       have HB := n5_
       clear n0_ n1_ n2_ n3_ n4_ n5_
       (try clear hb)
       obtain ⟨Ao30, co30, eo30⟩ := Kd.R_slice HO198.out
       (first | subst eo30 | (injection eo30 with f1_ f2_ f3_; have f4_ := f1_.symm; have f5_ := f3_.symm; clear f1_ f2_ f3_; subst f4_; subst f5_))
       obtain ⟨Ao31, co31, eo31⟩ := Kd.R_slice HO201.out
       (first | subst eo31 | (injection eo31 with f1_ f2_ f3_; have f4_ := f1_.symm; have f5_ := f3_.symm; clear f1_ f2_ f3_; subst f4_; subst f5_))
       refine hK.out _ _ (c2 BK193 (c6e BK194)) (fun hHeld => ?_)
       clear hK K
       refine norm_ (a' := ?_) ?_ ?_
       rotate_left
       ·show Act.put _ (some 17) _ = _
        simp only [Act.put, List.setIfInBounds_toArray, List.set_cons_zero, List.set_cons_succ, i64_w, i32_w]
        rfl
       refine one_ (i := 4) (N := some 18) #[true, true, true, true, true, true, false] rfl rfl (by kernel_rfl) (by decide) (fun K hK => ?_)
       refine goesR Try.func13 (by kernel_rfl) rfl #[.agg #[.slice Ao30 t196.length co30, .slice Ao31 t199.length co31], .agg #[.int .i64 t202, .bool t203, .int .i64 t204, .int .i64 t205, .int .i64 t206, .int .i64 t207]] (by rfl) rfl rfl ?_
       with_reducible refine (spec_Filter.calls _ _ t196 _ _ t199 t202 t203 t204 t205 t206 t207 t208 t209 t210 t211 t212 t213 _ ?side1 ?side2 ?side3 ?side4 A12.out).mono ?_
       (case side1 => repeat (first | exact (Kd.R_reads' HO198.out).2.2 | (with_reducible refine Kd.C_alloc ?_ _) | (with_reducible refine Kd.C_drewN ?_ _) | (with_reducible refine Kd.C_drew ?_)))
       (case side2 => exact (Kd.R_reads' HO198.out).2.1)
       (case side3 => repeat (first | exact (Kd.R_reads' HO201.out).2.2 | (with_reducible refine Kd.C_alloc ?_ _) | (with_reducible refine Kd.C_drewN ?_ _) | (with_reducible refine Kd.C_drew ?_)))
       (case side4 => exact (Kd.R_reads' HO201.out).2.1)
       rintro e w32 ⟨rfl, hb⟩
       refine ⟨_, rfl, ?_⟩
       have n0_ := nR HO198 hb
       have n1_ := nR HO201 hb
       have n2_ := nblk BK193 hb
       have n3_ := nblk BK194 hb
       have n4_ := nblk BK214 hb
       have n5_ := nbs HB hb
       clear HO198 HO201 BK193 BK194 BK214 HB
       have HO198 := n0_
       have HO201 := n1_
       have BK193 := n2_
       have BK194 := n3_
       have BK214 := n4_
       have HB := n5_
       clear n0_ n1_ n2_ n3_ n4_ n5_
       (try clear hb)
       refine hK.out _ _ (c2 BK193 (c6e BK194)) (fun hHeld => ?_)
       clear hK K
       refine norm_ (a' := ?_) ?_ ?_
       rotate_left
       ·show Act.put _ (some 18) _ = _
        simp only [Act.put, List.setIfInBounds_toArray, List.set_cons_zero, List.set_cons_succ, i64_w, i32_w]
        rfl
       exact norm_ (by simp only [putAll, Act.put, List.setIfInBounds_toArray, List.set_cons_zero, List.set_cons_succ]) (hCont (.slice Ao30 t196.length co30, .slice Ao31 t199.length co31, gb214) _ ⟨hHeld, (by (with_reducible repeat (first | apply Kd.R_alloc | apply Kd.R_drewN | apply Kd.R_drew)); exact Kd.R_mono HO198.out (fun _ hk => hk.2)), (nRo HO201), (nb BK193), (nb BK194), (nb BK214), GW214.out, GE214.out, NB193_214.out, NB214_193.out, NB194_214.out, NB214_194.out, (by repeat (first | (with_reducible first | exact HB.out | apply below_alloc | apply pw_below_drewN | apply below_drew1 | refine below_set ?_ GE193.out | refine below_set ?_ GE194.out | refine below_set ?_ GE214.out) | exact HB.out))⟩)
     ·skip
      refine box_step ?hg (N := 6) ?hd (cs := #[.int .i64 0, .bool false, .int .i64 0, .int .i64 0, .int .i64 0, .int .i64 0]) (t := 33) ?hr ?_; (case hd => rfl); (case hg => rfl); (case hr => first | (go_simp; done) | (go_simp; rfl))
      intro gb214 hg w27 hbox hb
      have n0_ := nblk BK193 hb
      have n1_ := nblk BK194 hb
      have n2_ := nbs HB hb
      have n3_ := Aside0.mk (hbox)
      have n4_ := nge HB hg
      have n5_ := nge HB hg
      have n6_ := nlt BK193 hg
      have n7_ := ngt BK193 hg
      have n8_ := nlt BK194 hg
      have n9_ := ngt BK194 hg
      clear BK193 BK194 HB
      have BK193 := n0_
      have BK194 := n1_
      have HB := n2_
      have BK214 := n3_
      have GW214 := n4_
      have GE214 := n5_
      have NB193_214 := n6_
      have NB214_193 := n7_
      have NB194_214 := n8_
      have NB214_194 := n9_
      clear n0_ n1_ n2_ n3_ n4_ n5_ n6_ n7_ n8_ n9_
      clear hb hbox hg
      refine hK.out _ _ (c2 BK193 (c6e BK194)) (fun hHeld => ?_)
      clear hK K
      refine norm_ (a' := ?_) ?_ ?_
      rotate_left
      ·show Act.put _ (some 6) _ = _
       simp only [Act.put, List.setIfInBounds_toArray, List.set_cons_zero, List.set_cons_succ, i64_w, i32_w]
       rfl
      refine one_ (i := 1) (N := some 15) #[true, true, true, false, false, true, false] rfl rfl (by kernel_rfl) (by decide) (fun K hK => ?_)
      refine goesR Try.func14 (by kernel_rfl) rfl #[.agg #[.slice A0_0 l0_0.length c0_0, .slice A0_1 l0_1.length c0_1]] (by rfl) rfl rfl ?_
      with_reducible refine (laws_toMemory.calls k _ _ l0_0 _ _ l0_1 t196 t199 _ ?side1 ?side2 ?side3 ?side4 A10.out).mono ?_
      (case side1 => repeat (first | exact (Kd.C_below HR0_0.out HB.out) | (with_reducible refine Kd.C_alloc ?_ _) | (with_reducible refine Kd.C_drewN ?_ _) | (with_reducible refine Kd.C_drew ?_)))
      (case side2 => exact HC0_0.out)
      (case side3 => repeat (first | exact (Kd.C_below HR0_1.out HB.out) | (with_reducible refine Kd.C_alloc ?_ _) | (with_reducible refine Kd.C_drewN ?_ _) | (with_reducible refine Kd.C_drew ?_)))
      (case side4 => exact HC0_1.out)
      rintro e w28 ⟨v197, v200, rfl, ho0, ho1, hb⟩
      refine ⟨_, rfl, ?_⟩
      have n0_ := Aside0.mk (Kd.R_lower (Kd.R_newB ho0 (g := gb214) (o := .cells #[.int .i64 0, .bool false, .int .i64 0, .int .i64 0, .int .i64 0, .int .i64 0] 33 (0, 0)) (nb BK214)) (below_size (by repeat (first | (with_reducible first | exact HB.out | apply below_alloc | apply pw_below_drewN | apply below_drew1 | refine below_set ?_ GE193.out | refine below_set ?_ GE194.out | refine below_set ?_ GE214.out) | exact HB.out))))
      have n1_ := Aside0.mk (Kd.R_lower ho1 (below_size (by repeat (first | (with_reducible first | exact HB.out | apply below_alloc | apply pw_below_drewN | apply below_drew1 | refine below_set ?_ GE193.out | refine below_set ?_ GE194.out | refine below_set ?_ GE214.out) | exact HB.out))))
      have n2_ := nblk BK193 hb
      have n3_ := nblk BK194 hb
      have n4_ := nblk BK214 hb
      have n5_ := nbs HB hb
      clear BK193 BK194 BK214 HB
      have HO198 := n0_
      have HO201 := n1_
      have BK193 := n2_
      have BK194 := n3_
      have BK214 := n4_
      have HB := n5_
      clear n0_ n1_ n2_ n3_ n4_ n5_
      (try clear hb)
      (try clear ho0)
      (try clear ho1)
      refine hK.out _ _ (c2 BK193 (c6e BK194)) (fun hHeld => ?_)
      clear hK K
      refine norm_ (a' := ?_) ?_ ?_
      rotate_left
      ·show Act.put _ (some 15) _ = _
       simp only [Act.put, List.setIfInBounds_toArray, List.set_cons_zero, List.set_cons_succ, i64_w, i32_w]
       rfl
      refine one_ (i := 3) (N := some 17) #[true, true, true, true, false, true, false] rfl rfl (by kernel_rfl) (by decide) (fun K hK => ?_)
      refine goesR Try.func15 (by kernel_rfl) rfl #[.agg #[.int .i64 a1_0, .bool a1_1, .int .i64 a1_2, .int .i64 a1_3, .int .i64 a1_4, .int .i64 a1_5]] (by rfl) rfl rfl ?_
      with_reducible refine (laws_toWord.calls a1_0 a1_1 a1_2 a1_3 a1_4 a1_5 t202 t203 t204 t205 t206 t207 _ A11.out).mono ?_
      rintro e w29 ⟨rfl, hb⟩
      refine ⟨_, rfl, ?_⟩
      have n0_ := nR HO198 hb
      have n1_ := nR HO201 hb
      have n2_ := nblk BK193 hb
      have n3_ := nblk BK194 hb
      have n4_ := nblk BK214 hb
      have n5_ := nbs HB hb
      clear HO198 HO201 BK193 BK194 BK214 HB
      have HO198 := n0_
      have HO201 := n1_
      have BK193 := n2_
      have BK194 := n3_
      have BK214 := n4_
      have HB := n5_
      clear n0_ n1_ n2_ n3_ n4_ n5_
      (try clear hb)
      obtain ⟨Ao30, co30, eo30⟩ := Kd.R_slice HO198.out
      (first | subst eo30 | (injection eo30 with f1_ f2_ f3_; have f4_ := f1_.symm; have f5_ := f3_.symm; clear f1_ f2_ f3_; subst f4_; subst f5_))
      obtain ⟨Ao31, co31, eo31⟩ := Kd.R_slice HO201.out
      (first | subst eo31 | (injection eo31 with f1_ f2_ f3_; have f4_ := f1_.symm; have f5_ := f3_.symm; clear f1_ f2_ f3_; subst f4_; subst f5_))
      refine hK.out _ _ (c2 BK193 (c6e BK194)) (fun hHeld => ?_)
      clear hK K
      refine norm_ (a' := ?_) ?_ ?_
      rotate_left
      ·show Act.put _ (some 17) _ = _
       simp only [Act.put, List.setIfInBounds_toArray, List.set_cons_zero, List.set_cons_succ, i64_w, i32_w]
       rfl
      refine one_ (i := 4) (N := some 18) #[true, true, true, true, true, true, false] rfl rfl (by kernel_rfl) (by decide) (fun K hK => ?_)
      refine goesR Try.func13 (by kernel_rfl) rfl #[.agg #[.slice Ao30 t196.length co30, .slice Ao31 t199.length co31], .agg #[.int .i64 t202, .bool t203, .int .i64 t204, .int .i64 t205, .int .i64 t206, .int .i64 t207]] (by rfl) rfl rfl ?_
      with_reducible refine (spec_Filter.calls _ _ t196 _ _ t199 t202 t203 t204 t205 t206 t207 t208 t209 t210 t211 t212 t213 _ ?side1 ?side2 ?side3 ?side4 A12.out).mono ?_
      (case side1 => repeat (first | exact (Kd.R_reads' HO198.out).2.2 | (with_reducible refine Kd.C_alloc ?_ _) | (with_reducible refine Kd.C_drewN ?_ _) | (with_reducible refine Kd.C_drew ?_)))
      (case side2 => exact (Kd.R_reads' HO198.out).2.1)
      (case side3 => repeat (first | exact (Kd.R_reads' HO201.out).2.2 | (with_reducible refine Kd.C_alloc ?_ _) | (with_reducible refine Kd.C_drewN ?_ _) | (with_reducible refine Kd.C_drew ?_)))
      (case side4 => exact (Kd.R_reads' HO201.out).2.1)
      rintro e w32 ⟨rfl, hb⟩
      refine ⟨_, rfl, ?_⟩
      have n0_ := nR HO198 hb
      have n1_ := nR HO201 hb
      have n2_ := nblk BK193 hb
      have n3_ := nblk BK194 hb
      have n4_ := nblk BK214 hb
      have n5_ := nbs HB hb
      clear HO198 HO201 BK193 BK194 BK214 HB
      have HO198 := n0_
      have HO201 := n1_
      have BK193 := n2_
      have BK194 := n3_
      have BK214 := n4_
      have HB := n5_
      clear n0_ n1_ n2_ n3_ n4_ n5_
      (try clear hb)
      refine hK.out _ _ (c2 BK193 (c6e BK194)) (fun hHeld => ?_)
      clear hK K
      refine norm_ (a' := ?_) ?_ ?_
      rotate_left
      ·show Act.put _ (some 18) _ = _
       simp only [Act.put, List.setIfInBounds_toArray, List.set_cons_zero, List.set_cons_succ, i64_w, i32_w]
       rfl
      exact norm_ (by simp only [putAll, Act.put, List.setIfInBounds_toArray, List.set_cons_zero, List.set_cons_succ]) (hCont (.slice Ao30 t196.length co30, .slice Ao31 t199.length co31, gb214) _ ⟨hHeld, (by (with_reducible repeat (first | apply Kd.R_alloc | apply Kd.R_drewN | apply Kd.R_drew)); exact Kd.R_mono HO198.out (fun _ hk => hk.2)), (nRo HO201), (nb BK193), (nb BK194), (nb BK214), GW214.out, GE214.out, NB193_214.out, NB214_193.out, NB194_214.out, NB214_194.out, (by repeat (first | (with_reducible first | exact HB.out | apply below_alloc | apply pw_below_drewN | apply below_drew1 | refine below_set ?_ GE193.out | refine below_set ?_ GE194.out | refine below_set ?_ GE214.out) | exact HB.out))⟩)
    rintro ⟨v197, v200, gb214⟩ w33 ⟨hS_, h0_, h1_, h2_, h3_, h4_, h5_, h6_, h7_, h8_, h9_, h10_, h11_⟩
    have n0_ : Aside0 (Kd.R k33 33 w33 w.heap.size (fun k_ => k_ ≠ gb214) v197 t196) := ⟨h0_⟩
    have n1_ : Aside0 (Kd.R Kd.bool 4 w33 w.heap.size (fun _ => True) v200 t199) := ⟨h1_⟩
    have n2_ : Aside0 (w33.heap[gb193]? = some (.cells #[.slice A0_0 l0_0.length c0_0, .slice A0_1 l0_1.length c0_1] 25 (0, 0))) := ⟨h2_⟩
    have n3_ : Aside0 (w33.heap[gb194]? = some (.cells #[.int .i64 a1_0, .bool a1_1, .int .i64 a1_2, .int .i64 a1_3, .int .i64 a1_4, .int .i64 a1_5] 29 (0, 0))) := ⟨h3_⟩
    have n4_ : Aside0 (w33.heap[gb214]? = some (.cells #[.int .i64 0, .bool false, .int .i64 0, .int .i64 0, .int .i64 0, .int .i64 0] 33 (0, 0))) := ⟨h4_⟩
    have n5_ : Aside0 (w.heap.size ≤ gb214) := ⟨h5_⟩
    have n6_ : Aside0 (w.heap.size ≤ gb214) := ⟨h6_⟩
    have n7_ : Aside0 (gb193 ≠ gb214) := ⟨h7_⟩
    have n8_ : Aside0 (gb214 ≠ gb193) := ⟨h8_⟩
    have n9_ : Aside0 (gb194 ≠ gb214) := ⟨h9_⟩
    have n10_ : Aside0 (gb214 ≠ gb194) := ⟨h10_⟩
    have n11_ : Aside0 (Below w.heap.size w w33) := ⟨h11_⟩
    clear BK193 BK194 HB
    clear h0_ h1_ h2_ h3_ h4_ h5_ h6_ h7_ h8_ h9_ h10_ h11_
    have HO198 := n0_
    have HO201 := n1_
    have BK193 := n2_
    have BK194 := n3_
    have BK214 := n4_
    have GW214 := n5_
    have GE214 := n6_
    have NB193_214 := n7_
    have NB214_193 := n8_
    have NB194_214 := n9_
    have NB214_194 := n10_
    have HB := n11_
    clear n0_ n1_ n2_ n3_ n4_ n5_ n6_ n7_ n8_ n9_ n10_ n11_
    have hHeld : w33.cell? ⟨gb193, 0, none⟩ = some (.slice A0_0 l0_0.length c0_0) ∧ w33.cell? ⟨gb193, 1, none⟩ = some (.slice A0_1 l0_1.length c0_1) ∧ w33.cell? ⟨gb194, 0, none⟩ = some (.int .i64 a1_0) ∧ w33.cell? ⟨gb194, 1, none⟩ = some (.bool a1_1) ∧ w33.cell? ⟨gb194, 2, none⟩ = some (.int .i64 a1_2) ∧ w33.cell? ⟨gb194, 3, none⟩ = some (.int .i64 a1_3) ∧ w33.cell? ⟨gb194, 4, none⟩ = some (.int .i64 a1_4) ∧ w33.cell? ⟨gb194, 5, none⟩ = some (.int .i64 a1_5) := hS_
    refine norm_ (a' := ?_) ?_ ?_
    rotate_left
    ·simp only [putAll, Act.put, List.setIfInBounds_toArray, List.set_cons_zero, List.set_cons_succ]
     rfl
    refine one_ (i := 6) (N := none) #[true, true, true, true, true, true, true] rfl rfl (by kernel_rfl) (by decide) (fun K hK => ?_)
    have hs34 : w33.cell? ⟨gb214, 0, none⟩ = some (.int .i64 0) := (blk_cell BK214.out 0).trans rfl
    have hfs34 := blk_frozen BK214.out 0
    have hns34_0 := NB193_214.out
    have hns34_1 := NB194_214.out
    have hms34_0 := NB214_193.out
    have hms34_1 := NB214_194.out
    have hs35 : w33.cell? ⟨gb214, 1, none⟩ = some (.bool false) := (blk_cell BK214.out 1).trans rfl
    have hfs35 := blk_frozen BK214.out 1
    have hns35_0 := NB193_214.out
    have hns35_1 := NB194_214.out
    have hms35_0 := NB214_193.out
    have hms35_1 := NB214_194.out
    have hs36 : w33.cell? ⟨gb214, 2, none⟩ = some (.int .i64 0) := (blk_cell BK214.out 2).trans rfl
    have hfs36 := blk_frozen BK214.out 2
    have hns36_0 := NB193_214.out
    have hns36_1 := NB194_214.out
    have hms36_0 := NB214_193.out
    have hms36_1 := NB214_194.out
    have hs37 : w33.cell? ⟨gb214, 3, none⟩ = some (.int .i64 0) := (blk_cell BK214.out 3).trans rfl
    have hfs37 := blk_frozen BK214.out 3
    have hns37_0 := NB193_214.out
    have hns37_1 := NB194_214.out
    have hms37_0 := NB214_193.out
    have hms37_1 := NB214_194.out
    have hs38 : w33.cell? ⟨gb214, 4, none⟩ = some (.int .i64 0) := (blk_cell BK214.out 4).trans rfl
    have hfs38 := blk_frozen BK214.out 4
    have hns38_0 := NB193_214.out
    have hns38_1 := NB194_214.out
    have hms38_0 := NB214_193.out
    have hms38_1 := NB214_194.out
    have hs39 : w33.cell? ⟨gb214, 5, none⟩ = some (.int .i64 0) := (blk_cell BK214.out 5).trans rfl
    have hfs39 := blk_frozen BK214.out 5
    have hns39_0 := NB193_214.out
    have hns39_1 := NB194_214.out
    have hms39_0 := NB214_193.out
    have hms39_1 := NB214_194.out
    refine skip_ (w1 := ?_) (by rfl) rfl ?_ ?_
    rotate_left
    ·go_simp
     rfl
    refine hK.out _ _ ⟨(g6 NB193_214.out hHeld.1), (g6 NB193_214.out hHeld.2.1), (g6 NB194_214.out hHeld.2.2.1), (g6 NB194_214.out hHeld.2.2.2.1), (g6 NB194_214.out hHeld.2.2.2.2.1), (g6 NB194_214.out hHeld.2.2.2.2.2.1), (g6 NB194_214.out hHeld.2.2.2.2.2.2.1), (g6 NB194_214.out hHeld.2.2.2.2.2.2.2)⟩ (fun hHeld => ?_)
    clear hK K
    refine done_ (by kernel_rfl) ?_
    have hnb40 := NB193_214.out
    have hnc40 := NB214_193.out
    have hcz41_0 : w33.cell? ⟨gb193, 0, none⟩ = some (.slice A0_0 l0_0.length c0_0) := (blk_cell BK193.out 0).trans rfl
    have hcz41_1 : w33.cell? ⟨gb193, 1, none⟩ = some (.slice A0_1 l0_1.length c0_1) := (blk_cell BK193.out 1).trans rfl
    have hfz41_0 := blk_frozen BK193.out 0
    have hfz41_1 := blk_frozen BK193.out 1
    try go_wp2_with (first | ((with_reducible refine gate_callee (f := 14) rfl ?_); refine goesM (some 20) rfl rfl Try.func14 (by kernel_rfl) rfl #[.agg #[.slice A0_0 l0_0.length c0_0, .slice A0_1 l0_1.length c0_1]] rfl ?_; (with_reducible refine (laws_toMemory.calls k _ _ l0_0 _ _ l0_1 t215 t218 _ ?side1 ?side2 ?side3 ?side4 A13.out).mono ?_); (case side1 => exact Kd.C_below HR0_0.out (by repeat (first | (with_reducible first | exact HB.out | apply below_alloc | apply pw_below_drewN | apply below_drew1 | refine below_set ?_ GE193.out | refine below_set ?_ GE194.out | refine below_set ?_ GE214.out) | exact HB.out))); (case side2 => exact HC0_0.out); (case side3 => exact Kd.C_below HR0_1.out (by repeat (first | (with_reducible first | exact HB.out | apply below_alloc | apply pw_below_drewN | apply below_drew1 | refine below_set ?_ GE193.out | refine below_set ?_ GE194.out | refine below_set ?_ GE214.out) | exact HB.out))); (case side4 => exact HC0_1.out); rintro e w42 ⟨v216, v219, rfl, ho0, ho1, hb⟩; refine ⟨_, rfl, ?_⟩; have n0_ := Aside0.mk (Kd.R_elder' (by (with_reducible repeat (first | apply Kd.R_alloc | apply Kd.R_drewN | apply Kd.R_drew)); exact (f6 (Kd.R_mono HO198.out (fun k_ hk => (⟨hk, hk⟩ : _ ∧ k_ ≠ gb214))))) (Kd.R_base ho0) hb); have n1_ := Aside0.mk (Kd.R_elder' (by (with_reducible repeat (first | apply Kd.R_alloc | apply Kd.R_drewN | apply Kd.R_drew)); exact (f6 (Kd.R_types HO201.out BK214.out (by decide)))) (Kd.R_base ho1) hb); have n2_ := Aside0.mk (Kd.R_lower (Kd.R_newB (Kd.R_new' ho0 (Kd.R_lt (by (with_reducible repeat (first | apply Kd.R_alloc | apply Kd.R_drewN | apply Kd.R_drew)); exact (f6 (Kd.R_mono HO198.out (fun k_ hk => (⟨hk, hk⟩ : _ ∧ k_ ≠ gb214))))))) (g := gb214) (o := .cells #[.int .i64 t208, .bool t209, .int .i64 t210, .int .i64 t211, .int .i64 t212, .int .i64 t213] 33 (0, 0)) (by (with_reducible repeat (first | refine blk_drewN ?_ _ | refine blk_drew ?_ | refine blk_alloc ?_ _)); refine blk_put (cs := #[.int .i64 t208, .bool t209, .int .i64 t210, .int .i64 t211, .int .i64 t212, .int .i64 0]) ?_ 5 _ rfl; (with_reducible repeat (first | refine blk_drewN ?_ _ | refine blk_drew ?_ | refine blk_alloc ?_ _)); refine blk_put (cs := #[.int .i64 t208, .bool t209, .int .i64 t210, .int .i64 t211, .int .i64 0, .int .i64 0]) ?_ 4 _ rfl; (with_reducible repeat (first | refine blk_drewN ?_ _ | refine blk_drew ?_ | refine blk_alloc ?_ _)); refine blk_put (cs := #[.int .i64 t208, .bool t209, .int .i64 t210, .int .i64 0, .int .i64 0, .int .i64 0]) ?_ 3 _ rfl; (with_reducible repeat (first | refine blk_drewN ?_ _ | refine blk_drew ?_ | refine blk_alloc ?_ _)); refine blk_put (cs := #[.int .i64 t208, .bool t209, .int .i64 0, .int .i64 0, .int .i64 0, .int .i64 0]) ?_ 2 _ rfl; (with_reducible repeat (first | refine blk_drewN ?_ _ | refine blk_drew ?_ | refine blk_alloc ?_ _)); refine blk_put (cs := #[.int .i64 t208, .bool false, .int .i64 0, .int .i64 0, .int .i64 0, .int .i64 0]) ?_ 1 _ rfl; (with_reducible repeat (first | refine blk_drewN ?_ _ | refine blk_drew ?_ | refine blk_alloc ?_ _)); refine blk_put (cs := #[.int .i64 0, .bool false, .int .i64 0, .int .i64 0, .int .i64 0, .int .i64 0]) ?_ 0 _ rfl; (with_reducible repeat (first | refine blk_drewN ?_ _ | refine blk_drew ?_ | refine blk_alloc ?_ _)); exact BK214.out)) (below_size (by repeat (first | (with_reducible first | exact HB.out | apply below_alloc | apply pw_below_drewN | apply below_drew1 | refine below_set ?_ GE193.out | refine below_set ?_ GE194.out | refine below_set ?_ GE214.out) | exact HB.out)))); have n3_ := Aside0.mk (Kd.R_lower (Kd.R_new' ho1 (Kd.R_lt (by (with_reducible repeat (first | apply Kd.R_alloc | apply Kd.R_drewN | apply Kd.R_drew)); exact (f6 (Kd.R_types HO201.out BK214.out (by decide)))))) (below_size (by repeat (first | (with_reducible first | exact HB.out | apply below_alloc | apply pw_below_drewN | apply below_drew1 | refine below_set ?_ GE193.out | refine below_set ?_ GE194.out | refine below_set ?_ GE214.out) | exact HB.out)))); have n4_ := nblk BK193 hb; have n5_ := nblk BK194 hb; have n6_ := Aside0.mk (blk_below (g := gb214) (o := .cells #[.int .i64 t208, .bool t209, .int .i64 t210, .int .i64 t211, .int .i64 t212, .int .i64 t213] 33 (0, 0)) (by (with_reducible repeat (first | refine blk_drewN ?_ _ | refine blk_drew ?_ | refine blk_alloc ?_ _)); refine blk_put (cs := #[.int .i64 t208, .bool t209, .int .i64 t210, .int .i64 t211, .int .i64 t212, .int .i64 0]) ?_ 5 _ rfl; (with_reducible repeat (first | refine blk_drewN ?_ _ | refine blk_drew ?_ | refine blk_alloc ?_ _)); refine blk_put (cs := #[.int .i64 t208, .bool t209, .int .i64 t210, .int .i64 t211, .int .i64 0, .int .i64 0]) ?_ 4 _ rfl; (with_reducible repeat (first | refine blk_drewN ?_ _ | refine blk_drew ?_ | refine blk_alloc ?_ _)); refine blk_put (cs := #[.int .i64 t208, .bool t209, .int .i64 t210, .int .i64 0, .int .i64 0, .int .i64 0]) ?_ 3 _ rfl; (with_reducible repeat (first | refine blk_drewN ?_ _ | refine blk_drew ?_ | refine blk_alloc ?_ _)); refine blk_put (cs := #[.int .i64 t208, .bool t209, .int .i64 0, .int .i64 0, .int .i64 0, .int .i64 0]) ?_ 2 _ rfl; (with_reducible repeat (first | refine blk_drewN ?_ _ | refine blk_drew ?_ | refine blk_alloc ?_ _)); refine blk_put (cs := #[.int .i64 t208, .bool false, .int .i64 0, .int .i64 0, .int .i64 0, .int .i64 0]) ?_ 1 _ rfl; (with_reducible repeat (first | refine blk_drewN ?_ _ | refine blk_drew ?_ | refine blk_alloc ?_ _)); refine blk_put (cs := #[.int .i64 0, .bool false, .int .i64 0, .int .i64 0, .int .i64 0, .int .i64 0]) ?_ 0 _ rfl; (with_reducible repeat (first | refine blk_drewN ?_ _ | refine blk_drew ?_ | refine blk_alloc ?_ _)); exact BK214.out) hb); have n7_ := nbs HB hb; clear HO198 HO201 BK193 BK194 BK214 HB; have HO198 := n0_; have HO201 := n1_; have HO217 := n2_; have HO220 := n3_; have BK193 := n4_; have BK194 := n5_; have BK214 := n6_; have HB := n7_; clear n0_ n1_ n2_ n3_ n4_ n5_ n6_ n7_; (try clear hb); (try clear ho0); (try clear ho1)) | ((with_reducible refine gate_dst (N := 7) rfl ?_); refine box_event ?hg (N := 7) ?hd (cs := #[.slice none 0 0, .slice none 0 0]) (t := 37) ?hr ?_; (case hd => rfl); (case hg => rfl); (case hr => first | (go_simp; done) | (go_simp; rfl)); intro gb221 hg w43 hbox hb; have n0_ := nR HO198 hb; have n1_ := nR HO201 hb; have n2_ := nR HO217 hb; have n3_ := nR HO220 hb; have n4_ := nblk BK193 hb; have n5_ := nblk BK194 hb; have n6_ := nblk BK214 hb; have n7_ := nbs HB hb; have n8_ := Aside0.mk (hbox); have n9_ := nge HB hg; have n10_ := nge HB hg; have n11_ := nlt BK193 hg; have n12_ := ngt BK193 hg; have n13_ := nlt BK194 hg; have n14_ := ngt BK194 hg; have n15_ := nlt BK214 hg; have n16_ := ngt BK214 hg; clear HO198 HO201 HO217 HO220 BK193 BK194 BK214 HB; have HO198 := n0_; have HO201 := n1_; have HO217 := n2_; have HO220 := n3_; have BK193 := n4_; have BK194 := n5_; have BK214 := n6_; have HB := n7_; have BK221 := n8_; have GW221 := n9_; have GE221 := n10_; have NB193_221 := n11_; have NB221_193 := n12_; have NB194_221 := n13_; have NB221_194 := n14_; have NB214_221 := n15_; have NB221_214 := n16_; clear n0_ n1_ n2_ n3_ n4_ n5_ n6_ n7_ n8_ n9_ n10_ n11_ n12_ n13_ n14_ n15_ n16_; clear hb hbox hg; obtain ⟨Ao44, co44, eo44⟩ := Kd.R_slice HO217.out; subst eo44; have hnb45 := NB221_193.out; have hnc45 := NB193_221.out; have hnb46 := NB221_194.out; have hnc46 := NB194_221.out; have hnb47 := NB221_214.out; have hnc47 := NB214_221.out; have hcz48_0 : w43.cell? ⟨gb221, 0, none⟩ = some (.slice none 0 0) := (blk_cell BK221.out 0).trans rfl; have hcz48_1 : w43.cell? ⟨gb221, 1, none⟩ = some (.slice none 0 0) := (blk_cell BK221.out 1).trans rfl; have hfz48_0 := blk_frozen BK221.out 0; have hfz48_1 := blk_frozen BK221.out 1; obtain ⟨Ao49, co49, eo49⟩ := Kd.R_slice HO220.out; subst eo49))
    have n0_ : Aside0 (Kd.R k33 33 ((w43.setCell ⟨gb221, 0, none⟩ (.slice Ao44 t215.length co44)).setCell ⟨gb221, 1, none⟩ (.slice Ao49 t218.length co49)) w.heap.size (fun k_ => some k_ ≠ (.slice Ao44 t215.length co44 : Value).ownBlock ∧ k_ ≠ gb214) v197 t196) := ⟨by (with_reducible repeat (first | apply Kd.R_alloc | apply Kd.R_drewN | apply Kd.R_drew)); exact Kd.R_mono (Kd.R_far (p := ⟨gb221, 1, none⟩) (Kd.R_far (p := ⟨gb221, 0, none⟩) (Kd.R_types HO198.out BK221.out (by decide)) (fun _ hk => hk.2) (.slice Ao44 t215.length co44)) (fun _ hk => hk.2) (.slice Ao49 t218.length co49)) (fun _ hk => ⟨hk.1.2, hk.1.1⟩)⟩
    have n1_ : Aside0 (Kd.R Kd.bool 4 ((w43.setCell ⟨gb221, 0, none⟩ (.slice Ao44 t215.length co44)).setCell ⟨gb221, 1, none⟩ (.slice Ao49 t218.length co49)) w.heap.size (fun k_ => some k_ ≠ (.slice Ao49 t218.length co49 : Value).ownBlock) v200 t199) := ⟨by (with_reducible repeat (first | apply Kd.R_alloc | apply Kd.R_drewN | apply Kd.R_drew)); exact Kd.R_mono (Kd.R_far (p := ⟨gb221, 1, none⟩) (Kd.R_far (p := ⟨gb221, 0, none⟩) (Kd.R_types HO201.out BK221.out (by decide)) (fun _ hk => hk.2) (.slice Ao44 t215.length co44)) (fun _ hk => hk.2) (.slice Ao49 t218.length co49)) (fun _ hk => hk.1.2)⟩
    have n2_ : Aside0 (Kd.R k33 33 ((w43.setCell ⟨gb221, 0, none⟩ (.slice Ao44 t215.length co44)).setCell ⟨gb221, 1, none⟩ (.slice Ao49 t218.length co49)) w.heap.size (fun k_ => some k_ ≠ (v197 : Value).ownBlock ∧ k_ ≠ gb214) (.slice Ao44 t215.length co44) t215) := ⟨by (with_reducible repeat (first | apply Kd.R_alloc | apply Kd.R_drewN | apply Kd.R_drew)); exact Kd.R_mono (Kd.R_far (p := ⟨gb221, 1, none⟩) (Kd.R_far (p := ⟨gb221, 0, none⟩) (Kd.R_types HO217.out BK221.out (by decide)) (fun _ hk => hk.2) (.slice Ao44 t215.length co44)) (fun _ hk => hk.2) (.slice Ao49 t218.length co49)) (fun _ hk => ⟨hk.1.1.2, hk.1.2⟩)⟩
    have n3_ : Aside0 (Kd.R Kd.bool 4 ((w43.setCell ⟨gb221, 0, none⟩ (.slice Ao44 t215.length co44)).setCell ⟨gb221, 1, none⟩ (.slice Ao49 t218.length co49)) w.heap.size (fun k_ => some k_ ≠ (v200 : Value).ownBlock) (.slice Ao49 t218.length co49) t218) := ⟨by (with_reducible repeat (first | apply Kd.R_alloc | apply Kd.R_drewN | apply Kd.R_drew)); exact Kd.R_mono (Kd.R_far (p := ⟨gb221, 1, none⟩) (Kd.R_far (p := ⟨gb221, 0, none⟩) (Kd.R_types HO220.out BK221.out (by decide)) (fun _ hk => hk.2) (.slice Ao44 t215.length co44)) (fun _ hk => hk.2) (.slice Ao49 t218.length co49)) (fun _ hk => hk.1.2)⟩
    have n4_ : Aside0 (((w43.setCell ⟨gb221, 0, none⟩ (.slice Ao44 t215.length co44)).setCell ⟨gb221, 1, none⟩ (.slice Ao49 t218.length co49)).heap[gb193]? = some (.cells #[.slice A0_0 l0_0.length c0_0, .slice A0_1 l0_1.length c0_1] 25 (0, 0))) := ⟨by (with_reducible repeat (first | refine blk_drewN ?_ _ | refine blk_drew ?_ | refine blk_alloc ?_ _)); refine blk_far ?_ NB193_221.out _; (with_reducible repeat (first | refine blk_drewN ?_ _ | refine blk_drew ?_ | refine blk_alloc ?_ _)); refine blk_far ?_ NB193_221.out _; (with_reducible repeat (first | refine blk_drewN ?_ _ | refine blk_drew ?_ | refine blk_alloc ?_ _)); exact BK193.out⟩
    have n5_ : Aside0 (((w43.setCell ⟨gb221, 0, none⟩ (.slice Ao44 t215.length co44)).setCell ⟨gb221, 1, none⟩ (.slice Ao49 t218.length co49)).heap[gb194]? = some (.cells #[.int .i64 a1_0, .bool a1_1, .int .i64 a1_2, .int .i64 a1_3, .int .i64 a1_4, .int .i64 a1_5] 29 (0, 0))) := ⟨by (with_reducible repeat (first | refine blk_drewN ?_ _ | refine blk_drew ?_ | refine blk_alloc ?_ _)); refine blk_far ?_ NB194_221.out _; (with_reducible repeat (first | refine blk_drewN ?_ _ | refine blk_drew ?_ | refine blk_alloc ?_ _)); refine blk_far ?_ NB194_221.out _; (with_reducible repeat (first | refine blk_drewN ?_ _ | refine blk_drew ?_ | refine blk_alloc ?_ _)); exact BK194.out⟩
    have n6_ : Aside0 (((w43.setCell ⟨gb221, 0, none⟩ (.slice Ao44 t215.length co44)).setCell ⟨gb221, 1, none⟩ (.slice Ao49 t218.length co49)).heap[gb214]? = some (.cells #[.int .i64 t208, .bool t209, .int .i64 t210, .int .i64 t211, .int .i64 t212, .int .i64 t213] 33 (0, 0))) := ⟨by (with_reducible repeat (first | refine blk_drewN ?_ _ | refine blk_drew ?_ | refine blk_alloc ?_ _)); refine blk_far ?_ NB214_221.out _; (with_reducible repeat (first | refine blk_drewN ?_ _ | refine blk_drew ?_ | refine blk_alloc ?_ _)); refine blk_far ?_ NB214_221.out _; (with_reducible repeat (first | refine blk_drewN ?_ _ | refine blk_drew ?_ | refine blk_alloc ?_ _)); exact BK214.out⟩
    have n7_ : Aside0 (((w43.setCell ⟨gb221, 0, none⟩ (.slice Ao44 t215.length co44)).setCell ⟨gb221, 1, none⟩ (.slice Ao49 t218.length co49)).heap[gb221]? = some (.cells #[.slice Ao44 t215.length co44, .slice Ao49 t218.length co49] 37 (0, 0))) := ⟨by (with_reducible repeat (first | refine blk_drewN ?_ _ | refine blk_drew ?_ | refine blk_alloc ?_ _)); refine blk_put (cs := #[.slice Ao44 t215.length co44, .slice none 0 0]) ?_ 1 _ rfl; (with_reducible repeat (first | refine blk_drewN ?_ _ | refine blk_drew ?_ | refine blk_alloc ?_ _)); refine blk_put (cs := #[.slice none 0 0, .slice none 0 0]) ?_ 0 _ rfl; (with_reducible repeat (first | refine blk_drewN ?_ _ | refine blk_drew ?_ | refine blk_alloc ?_ _)); exact BK221.out⟩
    have n8_ : Aside0 (Below w.heap.size w ((w43.setCell ⟨gb221, 0, none⟩ (.slice Ao44 t215.length co44)).setCell ⟨gb221, 1, none⟩ (.slice Ao49 t218.length co49))) := ⟨by repeat (first | (with_reducible first | exact HB.out | apply below_alloc | apply pw_below_drewN | apply below_drew1 | refine below_set ?_ GE193.out | refine below_set ?_ GE194.out | refine below_set ?_ GE214.out | refine below_set ?_ GE221.out) | exact HB.out)⟩
    (try clear HO198)
    (try clear HO201)
    (try clear HO217)
    (try clear HO220)
    (try clear BK193)
    (try clear BK194)
    (try clear BK214)
    (try clear BK221)
    (try clear HB)
    generalize ((w43.setCell ⟨gb221, 0, none⟩ (.slice Ao44 t215.length co44)).setCell ⟨gb221, 1, none⟩ (.slice Ao49 t218.length co49)) = w50 at n0_ n1_ n2_ n3_ n4_ n5_ n6_ n7_ n8_ ⊢
    have HO198 := n0_
    have HO201 := n1_
    have HO217 := n2_
    have HO220 := n3_
    have BK193 := n4_
    have BK194 := n5_
    have BK214 := n6_
    have BK221 := n7_
    have HB := n8_
    clear n0_ n1_ n2_ n3_ n4_ n5_ n6_ n7_ n8_
    have n0_ := Aside0.mk (Kd.R_drew HO198.out)
    have n1_ := Aside0.mk (Kd.R_drew HO201.out)
    have n2_ := Aside0.mk (Kd.R_drew HO217.out)
    have n3_ := Aside0.mk (Kd.R_drew HO220.out)
    have n4_ := Aside0.mk (blk_drew BK193.out)
    have n5_ := Aside0.mk (blk_drew BK194.out)
    have n6_ := Aside0.mk (blk_drew BK214.out)
    have n7_ := Aside0.mk (blk_drew BK221.out)
    have n8_ := Aside0.mk (below_drew1 HB.out)
    clear HO198 HO201 HO217 HO220 BK193 BK194 BK214 BK221 HB
    have HO198 := n0_
    have HO201 := n1_
    have HO217 := n2_
    have HO220 := n3_
    have BK193 := n4_
    have BK194 := n5_
    have BK214 := n6_
    have BK221 := n7_
    have HB := n8_
    clear n0_ n1_ n2_ n3_ n4_ n5_ n6_ n7_ n8_
    refine start_ (n := 6) (S := fun w' => w'.cell? ⟨gb221, 0, none⟩ = some (.slice Ao44 t215.length co44) ∧ w'.cell? ⟨gb221, 1, none⟩ = some (.slice Ao49 t218.length co49) ∧ w'.cell? ⟨gb194, 0, none⟩ = some (.int .i64 a1_0) ∧ w'.cell? ⟨gb194, 1, none⟩ = some (.bool a1_1) ∧ w'.cell? ⟨gb194, 2, none⟩ = some (.int .i64 a1_2) ∧ w'.cell? ⟨gb194, 3, none⟩ = some (.int .i64 a1_3) ∧ w'.cell? ⟨gb194, 4, none⟩ = some (.int .i64 a1_4) ∧ w'.cell? ⟨gb194, 5, none⟩ = some (.int .i64 a1_5)) (ds := []) #[false, false, false, false, false, false] (by kernel_rfl) rfl rfl (c2 BK221 (c6e BK194)) (fun hHeld => ?_)
    generalize w50.drew = w51 at HO198 HO201 HO217 HO220 BK193 BK194 BK214 BK221 HB hHeld ⊢
    refine take_ (i := 0) (N := some 21) (v := ?_) (a' := ?_) #[true, false, false, false, false, false] rfl rfl (by kernel_rfl) (fun _ _ _ h => h) (Or.inl ⟨by rfl, ?_⟩) hHeld ?_ ?_
    rotate_left
    ·rintro w' ⟨s0, s1, s2, s3, s4, s5, s6, s7⟩
     go_simp
     with_reducible rfl
    rotate_left
    ·simp only [Act.put, List.setIfInBounds_toArray, List.set_cons_zero, List.set_cons_succ, i64_w, i32_w]
     rfl
    refine take_ (i := 1) (N := some 22) (v := ?_) (a' := ?_) #[true, true, false, false, false, false] rfl rfl (by kernel_rfl) (fun _ _ _ h => h) (Or.inl ⟨by rfl, ?_⟩) hHeld ?_ ?_
    rotate_left
    ·rintro w' ⟨s0, s1, s2, s3, s4, s5, s6, s7⟩
     go_simp
     with_reducible rfl
    rotate_left
    ·simp only [Act.put, List.setIfInBounds_toArray, List.set_cons_zero, List.set_cons_succ, i64_w, i32_w]
     rfl
    refine join_ (σ := Nat) 1 #[true, true, true, true, true, false] (fun s_ => [(23, .agg #[.int .i64 t222, .bool t223, .int .i64 t224, .int .i64 t225, .int .i64 t226, .int .i64 t227]), (24, .agg #[.int .i64 t228, .bool t229, .int .i64 t230, .int .i64 t231, .int .i64 t232, .int .i64 t233]), (8, .pointer (some ⟨s_, 0, none⟩))]) (fun s_ w' => (w'.cell? ⟨gb221, 0, none⟩ = some (.slice Ao44 t215.length co44) ∧ w'.cell? ⟨gb221, 1, none⟩ = some (.slice Ao49 t218.length co49) ∧ w'.cell? ⟨gb194, 0, none⟩ = some (.int .i64 a1_0) ∧ w'.cell? ⟨gb194, 1, none⟩ = some (.bool a1_1) ∧ w'.cell? ⟨gb194, 2, none⟩ = some (.int .i64 a1_2) ∧ w'.cell? ⟨gb194, 3, none⟩ = some (.int .i64 a1_3) ∧ w'.cell? ⟨gb194, 4, none⟩ = some (.int .i64 a1_4) ∧ w'.cell? ⟨gb194, 5, none⟩ = some (.int .i64 a1_5)) ∧ (Kd.R k33 33 w' w.heap.size (fun k_ => some k_ ≠ (.slice Ao44 t215.length co44 : Value).ownBlock ∧ k_ ≠ gb214 ∧ k_ ≠ s_) v197 t196) ∧ (Kd.R Kd.bool 4 w' w.heap.size (fun k_ => some k_ ≠ (.slice Ao49 t218.length co49 : Value).ownBlock) v200 t199) ∧ (Kd.R k33 33 w' w.heap.size (fun k_ => some k_ ≠ (v197 : Value).ownBlock ∧ k_ ≠ gb214 ∧ k_ ≠ s_) (.slice Ao44 t215.length co44) t215) ∧ (Kd.R Kd.bool 4 w' w.heap.size (fun k_ => some k_ ≠ (v200 : Value).ownBlock) (.slice Ao49 t218.length co49) t218) ∧ (w'.heap[gb193]? = some (.cells #[.slice A0_0 l0_0.length c0_0, .slice A0_1 l0_1.length c0_1] 25 (0, 0))) ∧ (w'.heap[gb194]? = some (.cells #[.int .i64 a1_0, .bool a1_1, .int .i64 a1_2, .int .i64 a1_3, .int .i64 a1_4, .int .i64 a1_5] 29 (0, 0))) ∧ (w'.heap[gb214]? = some (.cells #[.int .i64 t208, .bool t209, .int .i64 t210, .int .i64 t211, .int .i64 t212, .int .i64 t213] 33 (0, 0))) ∧ (w'.heap[gb221]? = some (.cells #[.slice Ao44 t215.length co44, .slice Ao49 t218.length co49] 37 (0, 0))) ∧ (w'.heap[s_]? = some (.cells #[.int .i64 0, .bool false, .int .i64 0, .int .i64 0, .int .i64 0, .int .i64 0] 33 (0, 0))) ∧ (w.heap.size ≤ s_) ∧ (w.heap.size ≤ s_) ∧ (gb193 ≠ s_) ∧ (s_ ≠ gb193) ∧ (gb194 ≠ s_) ∧ (s_ ≠ gb194) ∧ (gb214 ≠ s_) ∧ (s_ ≠ gb214) ∧ (gb221 ≠ s_) ∧ (s_ ≠ gb221) ∧ (Below w.heap.size w w')) ?_ ?_
    rotate_left
    ·intro hCont
     refine two_ (i := 2) (j := 4) (Ni := some 23) (Nj := some 8) #[true, true, true, false, false, false] #[true, true, false, false, true, false] rfl rfl rfl rfl (by kernel_rfl) (by decide) (by decide) (fun K hK => ?_) (fun K hK => ?_)
     ·skip
      refine goesR Try.func15 (by kernel_rfl) rfl #[.agg #[.int .i64 a1_0, .bool a1_1, .int .i64 a1_2, .int .i64 a1_3, .int .i64 a1_4, .int .i64 a1_5]] (by rfl) rfl rfl ?_
      with_reducible refine (laws_toWord.calls a1_0 a1_1 a1_2 a1_3 a1_4 a1_5 t222 t223 t224 t225 t226 t227 _ A14.out).mono ?_
      rintro e w52 ⟨rfl, hb⟩
      refine ⟨_, rfl, ?_⟩
      have n0_ := nR HO198 hb
      have n1_ := nR HO201 hb
      have n2_ := nR HO217 hb
      have n3_ := nR HO220 hb
      have n4_ := nblk BK193 hb
      have n5_ := nblk BK194 hb
      have n6_ := nblk BK214 hb
      have n7_ := nblk BK221 hb
      have n8_ := nbs HB hb
      clear HO198 HO201 HO217 HO220 BK193 BK194 BK214 BK221 HB
      have HO198 := n0_
      have HO201 := n1_
      have HO217 := n2_
      have HO220 := n3_
      have BK193 := n4_
      have BK194 := n5_
      have BK214 := n6_
      have BK221 := n7_
      have HB := n8_
      clear n0_ n1_ n2_ n3_ n4_ n5_ n6_ n7_ n8_
      (try clear hb)
      refine hK.out _ _ (c2 BK221 (c6e BK194)) (fun hHeld => ?_)
      clear hK K
      refine norm_ (a' := ?_) ?_ ?_
      rotate_left
      ·show Act.put _ (some 23) _ = _
       simp only [Act.put, List.setIfInBounds_toArray, List.set_cons_zero, List.set_cons_succ, i64_w, i32_w]
       rfl
      refine two_ (i := 3) (j := 4) (Ni := some 24) (Nj := some 8) #[true, true, true, true, false, false] #[true, true, true, false, true, false] rfl rfl rfl rfl (by kernel_rfl) (by decide) (by decide) (fun K hK => ?_) (fun K hK => ?_)
      ·skip
       refine goesR Try.func16 (by kernel_rfl) rfl #[.agg #[.slice Ao44 t215.length co44, .slice Ao49 t218.length co49], .agg #[.int .i64 t222, .bool t223, .int .i64 t224, .int .i64 t225, .int .i64 t226, .int .i64 t227]] (by rfl) rfl rfl ?_
       with_reducible refine (impl_Filter.calls _ _ t215 _ _ t218 t222 t223 t224 t225 t226 t227 t228 t229 t230 t231 t232 t233 _ ?side1 ?side2 ?side3 ?side4 A15.out).mono ?_
       (case side1 => repeat (first | exact (Kd.R_reads' HO217.out).2.2 | (with_reducible refine Kd.C_alloc ?_ _) | (with_reducible refine Kd.C_drewN ?_ _) | (with_reducible refine Kd.C_drew ?_)))
       (case side2 => exact (Kd.R_reads' HO217.out).2.1)
       (case side3 => repeat (first | exact (Kd.R_reads' HO220.out).2.2 | (with_reducible refine Kd.C_alloc ?_ _) | (with_reducible refine Kd.C_drewN ?_ _) | (with_reducible refine Kd.C_drew ?_)))
       (case side4 => exact (Kd.R_reads' HO220.out).2.1)
       rintro e w53 ⟨rfl, hb⟩
       refine ⟨_, rfl, ?_⟩
       have n0_ := nR HO198 hb
       have n1_ := nR HO201 hb
       have n2_ := nR HO217 hb
       have n3_ := nR HO220 hb
       have n4_ := nblk BK193 hb
       have n5_ := nblk BK194 hb
       have n6_ := nblk BK214 hb
       have n7_ := nblk BK221 hb
       have n8_ := nbs HB hb
       clear HO198 HO201 HO217 HO220 BK193 BK194 BK214 BK221 HB
       have HO198 := n0_
       have HO201 := n1_
       have HO217 := n2_
       have HO220 := n3_
       have BK193 := n4_
       have BK194 := n5_
       have BK214 := n6_
       have BK221 := n7_
       have HB := n8_
       clear n0_ n1_ n2_ n3_ n4_ n5_ n6_ n7_ n8_
       (try clear hb)
       refine hK.out _ _ (c2 BK221 (c6e BK194)) (fun hHeld => ?_)
       clear hK K
       refine norm_ (a' := ?_) ?_ ?_
       rotate_left
       ·show Act.put _ (some 24) _ = _
        simp only [Act.put, List.setIfInBounds_toArray, List.set_cons_zero, List.set_cons_succ, i64_w, i32_w]
        rfl
       refine one_ (i := 4) (N := some 8) #[true, true, true, true, true, false] rfl rfl (by kernel_rfl) (by decide) (fun K hK => ?_)
       refine box_step ?hg (N := 8) ?hd (cs := #[.int .i64 0, .bool false, .int .i64 0, .int .i64 0, .int .i64 0, .int .i64 0]) (t := 33) ?hr ?_; (case hd => rfl); (case hg => rfl); (case hr => first | (go_simp; done) | (go_simp; rfl))
       intro gb234 hg w54 hbox hb
       have n0_ := Aside0.mk (Kd.R_below (Kd.R_elderB (nRo HO198) gb234 (Nat.le_of_eq hg.symm)) hb)
       have n1_ := nR HO201 hb
       have n2_ := Aside0.mk (Kd.R_below (Kd.R_elderB (nRo HO217) gb234 (Nat.le_of_eq hg.symm)) hb)
       have n3_ := nR HO220 hb
       have n4_ := nblk BK193 hb
       have n5_ := nblk BK194 hb
       have n6_ := nblk BK214 hb
       have n7_ := nblk BK221 hb
       have n8_ := nbs HB hb
       have n9_ := Aside0.mk (hbox)
       have n10_ := nge HB hg
       have n11_ := nge HB hg
       have n12_ := nlt BK193 hg
       have n13_ := ngt BK193 hg
       have n14_ := nlt BK194 hg
       have n15_ := ngt BK194 hg
       have n16_ := nlt BK214 hg
       have n17_ := ngt BK214 hg
       have n18_ := nlt BK221 hg
       have n19_ := ngt BK221 hg
       clear HO198 HO201 HO217 HO220 BK193 BK194 BK214 BK221 HB
       have HO198 := n0_
       have HO201 := n1_
       have HO217 := n2_
       have HO220 := n3_
       have BK193 := n4_
       have BK194 := n5_
       have BK214 := n6_
       have BK221 := n7_
       have HB := n8_
       have BK234 := n9_
       have GW234 := n10_
       have GE234 := n11_
       have NB193_234 := n12_
       have NB234_193 := n13_
       have NB194_234 := n14_
       have NB234_194 := n15_
       have NB214_234 := n16_
       have NB234_214 := n17_
       have NB221_234 := n18_
       have NB234_221 := n19_
       clear n0_ n1_ n2_ n3_ n4_ n5_ n6_ n7_ n8_ n9_ n10_ n11_ n12_ n13_ n14_ n15_ n16_ n17_ n18_ n19_
       clear hb hbox hg
       refine hK.out _ _ (c2 BK221 (c6e BK194)) (fun hHeld => ?_)
       clear hK K
       refine norm_ (a' := ?_) ?_ ?_
       rotate_left
       ·show Act.put _ (some 8) _ = _
        simp only [Act.put, List.setIfInBounds_toArray, List.set_cons_zero, List.set_cons_succ, i64_w, i32_w]
        rfl
       exact norm_ (by simp only [putAll, Act.put, List.setIfInBounds_toArray, List.set_cons_zero, List.set_cons_succ]) (hCont (gb234) _ ⟨hHeld, (by (with_reducible repeat (first | apply Kd.R_alloc | apply Kd.R_drewN | apply Kd.R_drew)); exact Kd.R_mono HO198.out (fun _ hk => ⟨hk.1.1, ⟨hk.1.2, hk.2⟩⟩)), (nRo HO201), (by (with_reducible repeat (first | apply Kd.R_alloc | apply Kd.R_drewN | apply Kd.R_drew)); exact Kd.R_mono HO217.out (fun _ hk => ⟨hk.1.1, ⟨hk.1.2, hk.2⟩⟩)), (nRo HO220), (nb BK193), (nb BK194), (nb BK214), (nb BK221), (nb BK234), GW234.out, GE234.out, NB193_234.out, NB234_193.out, NB194_234.out, NB234_194.out, NB214_234.out, NB234_214.out, NB221_234.out, NB234_221.out, (by repeat (first | (with_reducible first | exact HB.out | apply below_alloc | apply pw_below_drewN | apply below_drew1 | refine below_set ?_ GE193.out | refine below_set ?_ GE194.out | refine below_set ?_ GE214.out | refine below_set ?_ GE221.out | refine below_set ?_ GE234.out) | exact HB.out))⟩)
      ·skip
       refine box_step ?hg (N := 8) ?hd (cs := #[.int .i64 0, .bool false, .int .i64 0, .int .i64 0, .int .i64 0, .int .i64 0]) (t := 33) ?hr ?_; (case hd => rfl); (case hg => rfl); (case hr => first | (go_simp; done) | (go_simp; rfl))
       intro gb234 hg w53 hbox hb
       have n0_ := Aside0.mk (Kd.R_below (Kd.R_elderB (nRo HO198) gb234 (Nat.le_of_eq hg.symm)) hb)
       have n1_ := nR HO201 hb
       have n2_ := Aside0.mk (Kd.R_below (Kd.R_elderB (nRo HO217) gb234 (Nat.le_of_eq hg.symm)) hb)
       have n3_ := nR HO220 hb
       have n4_ := nblk BK193 hb
       have n5_ := nblk BK194 hb
       have n6_ := nblk BK214 hb
       have n7_ := nblk BK221 hb
       have n8_ := nbs HB hb
       have n9_ := Aside0.mk (hbox)
       have n10_ := nge HB hg
       have n11_ := nge HB hg
       have n12_ := nlt BK193 hg
       have n13_ := ngt BK193 hg
       have n14_ := nlt BK194 hg
       have n15_ := ngt BK194 hg
       have n16_ := nlt BK214 hg
       have n17_ := ngt BK214 hg
       have n18_ := nlt BK221 hg
       have n19_ := ngt BK221 hg
       clear HO198 HO201 HO217 HO220 BK193 BK194 BK214 BK221 HB
       have HO198 := n0_
       have HO201 := n1_
       have HO217 := n2_
       have HO220 := n3_
       have BK193 := n4_
       have BK194 := n5_
       have BK214 := n6_
       have BK221 := n7_
       have HB := n8_
       have BK234 := n9_
       have GW234 := n10_
       have GE234 := n11_
       have NB193_234 := n12_
       have NB234_193 := n13_
       have NB194_234 := n14_
       have NB234_194 := n15_
       have NB214_234 := n16_
       have NB234_214 := n17_
       have NB221_234 := n18_
       have NB234_221 := n19_
       clear n0_ n1_ n2_ n3_ n4_ n5_ n6_ n7_ n8_ n9_ n10_ n11_ n12_ n13_ n14_ n15_ n16_ n17_ n18_ n19_
       clear hb hbox hg
       refine hK.out _ _ (c2 BK221 (c6e BK194)) (fun hHeld => ?_)
       clear hK K
       refine norm_ (a' := ?_) ?_ ?_
       rotate_left
       ·show Act.put _ (some 8) _ = _
        simp only [Act.put, List.setIfInBounds_toArray, List.set_cons_zero, List.set_cons_succ, i64_w, i32_w]
        rfl
       refine one_ (i := 3) (N := some 24) #[true, true, true, true, true, false] rfl rfl (by kernel_rfl) (by decide) (fun K hK => ?_)
       refine goesR Try.func16 (by kernel_rfl) rfl #[.agg #[.slice Ao44 t215.length co44, .slice Ao49 t218.length co49], .agg #[.int .i64 t222, .bool t223, .int .i64 t224, .int .i64 t225, .int .i64 t226, .int .i64 t227]] (by rfl) rfl rfl ?_
       with_reducible refine (impl_Filter.calls _ _ t215 _ _ t218 t222 t223 t224 t225 t226 t227 t228 t229 t230 t231 t232 t233 _ ?side1 ?side2 ?side3 ?side4 A15.out).mono ?_
       (case side1 => repeat (first | exact (Kd.R_reads' HO217.out).2.2 | (with_reducible refine Kd.C_alloc ?_ _) | (with_reducible refine Kd.C_drewN ?_ _) | (with_reducible refine Kd.C_drew ?_)))
       (case side2 => exact (Kd.R_reads' HO217.out).2.1)
       (case side3 => repeat (first | exact (Kd.R_reads' HO220.out).2.2 | (with_reducible refine Kd.C_alloc ?_ _) | (with_reducible refine Kd.C_drewN ?_ _) | (with_reducible refine Kd.C_drew ?_)))
       (case side4 => exact (Kd.R_reads' HO220.out).2.1)
       rintro e w54 ⟨rfl, hb⟩
       refine ⟨_, rfl, ?_⟩
       have n0_ := nR HO198 hb
       have n1_ := nR HO201 hb
       have n2_ := nR HO217 hb
       have n3_ := nR HO220 hb
       have n4_ := nblk BK193 hb
       have n5_ := nblk BK194 hb
       have n6_ := nblk BK214 hb
       have n7_ := nblk BK221 hb
       have n8_ := nblk BK234 hb
       have n9_ := nbs HB hb
       clear HO198 HO201 HO217 HO220 BK193 BK194 BK214 BK221 BK234 HB
       have HO198 := n0_
       have HO201 := n1_
       have HO217 := n2_
       have HO220 := n3_
       have BK193 := n4_
       have BK194 := n5_
       have BK214 := n6_
       have BK221 := n7_
       have BK234 := n8_
       have HB := n9_
       clear n0_ n1_ n2_ n3_ n4_ n5_ n6_ n7_ n8_ n9_
       (try clear hb)
       refine hK.out _ _ (c2 BK221 (c6e BK194)) (fun hHeld => ?_)
       clear hK K
       refine norm_ (a' := ?_) ?_ ?_
       rotate_left
       ·show Act.put _ (some 24) _ = _
        simp only [Act.put, List.setIfInBounds_toArray, List.set_cons_zero, List.set_cons_succ, i64_w, i32_w]
        rfl
       exact norm_ (by simp only [putAll, Act.put, List.setIfInBounds_toArray, List.set_cons_zero, List.set_cons_succ]) (hCont (gb234) _ ⟨hHeld, (by (with_reducible repeat (first | apply Kd.R_alloc | apply Kd.R_drewN | apply Kd.R_drew)); exact Kd.R_mono HO198.out (fun _ hk => ⟨hk.1.1, ⟨hk.1.2, hk.2⟩⟩)), (nRo HO201), (by (with_reducible repeat (first | apply Kd.R_alloc | apply Kd.R_drewN | apply Kd.R_drew)); exact Kd.R_mono HO217.out (fun _ hk => ⟨hk.1.1, ⟨hk.1.2, hk.2⟩⟩)), (nRo HO220), (nb BK193), (nb BK194), (nb BK214), (nb BK221), (nb BK234), GW234.out, GE234.out, NB193_234.out, NB234_193.out, NB194_234.out, NB234_194.out, NB214_234.out, NB234_214.out, NB221_234.out, NB234_221.out, (by repeat (first | (with_reducible first | exact HB.out | apply below_alloc | apply pw_below_drewN | apply below_drew1 | refine below_set ?_ GE193.out | refine below_set ?_ GE194.out | refine below_set ?_ GE214.out | refine below_set ?_ GE221.out | refine below_set ?_ GE234.out) | exact HB.out))⟩)
     ·skip
      refine box_step ?hg (N := 8) ?hd (cs := #[.int .i64 0, .bool false, .int .i64 0, .int .i64 0, .int .i64 0, .int .i64 0]) (t := 33) ?hr ?_; (case hd => rfl); (case hg => rfl); (case hr => first | (go_simp; done) | (go_simp; rfl))
      intro gb234 hg w52 hbox hb
      have n0_ := Aside0.mk (Kd.R_below (Kd.R_elderB (nRo HO198) gb234 (Nat.le_of_eq hg.symm)) hb)
      have n1_ := nR HO201 hb
      have n2_ := Aside0.mk (Kd.R_below (Kd.R_elderB (nRo HO217) gb234 (Nat.le_of_eq hg.symm)) hb)
      have n3_ := nR HO220 hb
      have n4_ := nblk BK193 hb
      have n5_ := nblk BK194 hb
      have n6_ := nblk BK214 hb
      have n7_ := nblk BK221 hb
      have n8_ := nbs HB hb
      have n9_ := Aside0.mk (hbox)
      have n10_ := nge HB hg
      have n11_ := nge HB hg
      have n12_ := nlt BK193 hg
      have n13_ := ngt BK193 hg
      have n14_ := nlt BK194 hg
      have n15_ := ngt BK194 hg
      have n16_ := nlt BK214 hg
      have n17_ := ngt BK214 hg
      have n18_ := nlt BK221 hg
      have n19_ := ngt BK221 hg
      clear HO198 HO201 HO217 HO220 BK193 BK194 BK214 BK221 HB
      have HO198 := n0_
      have HO201 := n1_
      have HO217 := n2_
      have HO220 := n3_
      have BK193 := n4_
      have BK194 := n5_
      have BK214 := n6_
      have BK221 := n7_
      have HB := n8_
      have BK234 := n9_
      have GW234 := n10_
      have GE234 := n11_
      have NB193_234 := n12_
      have NB234_193 := n13_
      have NB194_234 := n14_
      have NB234_194 := n15_
      have NB214_234 := n16_
      have NB234_214 := n17_
      have NB221_234 := n18_
      have NB234_221 := n19_
      clear n0_ n1_ n2_ n3_ n4_ n5_ n6_ n7_ n8_ n9_ n10_ n11_ n12_ n13_ n14_ n15_ n16_ n17_ n18_ n19_
      clear hb hbox hg
      refine hK.out _ _ (c2 BK221 (c6e BK194)) (fun hHeld => ?_)
      clear hK K
      refine norm_ (a' := ?_) ?_ ?_
      rotate_left
      ·show Act.put _ (some 8) _ = _
       simp only [Act.put, List.setIfInBounds_toArray, List.set_cons_zero, List.set_cons_succ, i64_w, i32_w]
       rfl
      refine one_ (i := 2) (N := some 23) #[true, true, true, false, true, false] rfl rfl (by kernel_rfl) (by decide) (fun K hK => ?_)
      refine goesR Try.func15 (by kernel_rfl) rfl #[.agg #[.int .i64 a1_0, .bool a1_1, .int .i64 a1_2, .int .i64 a1_3, .int .i64 a1_4, .int .i64 a1_5]] (by rfl) rfl rfl ?_
      with_reducible refine (laws_toWord.calls a1_0 a1_1 a1_2 a1_3 a1_4 a1_5 t222 t223 t224 t225 t226 t227 _ A14.out).mono ?_
      rintro e w53 ⟨rfl, hb⟩
      refine ⟨_, rfl, ?_⟩
      have n0_ := nR HO198 hb
      have n1_ := nR HO201 hb
      have n2_ := nR HO217 hb
      have n3_ := nR HO220 hb
      have n4_ := nblk BK193 hb
      have n5_ := nblk BK194 hb
      have n6_ := nblk BK214 hb
      have n7_ := nblk BK221 hb
      have n8_ := nblk BK234 hb
      have n9_ := nbs HB hb
      clear HO198 HO201 HO217 HO220 BK193 BK194 BK214 BK221 BK234 HB
      have HO198 := n0_
      have HO201 := n1_
      have HO217 := n2_
      have HO220 := n3_
      have BK193 := n4_
      have BK194 := n5_
      have BK214 := n6_
      have BK221 := n7_
      have BK234 := n8_
      have HB := n9_
      clear n0_ n1_ n2_ n3_ n4_ n5_ n6_ n7_ n8_ n9_
      (try clear hb)
      refine hK.out _ _ (c2 BK221 (c6e BK194)) (fun hHeld => ?_)
      clear hK K
      refine norm_ (a' := ?_) ?_ ?_
      rotate_left
      ·show Act.put _ (some 23) _ = _
       simp only [Act.put, List.setIfInBounds_toArray, List.set_cons_zero, List.set_cons_succ, i64_w, i32_w]
       rfl
      refine one_ (i := 3) (N := some 24) #[true, true, true, true, true, false] rfl rfl (by kernel_rfl) (by decide) (fun K hK => ?_)
      refine goesR Try.func16 (by kernel_rfl) rfl #[.agg #[.slice Ao44 t215.length co44, .slice Ao49 t218.length co49], .agg #[.int .i64 t222, .bool t223, .int .i64 t224, .int .i64 t225, .int .i64 t226, .int .i64 t227]] (by rfl) rfl rfl ?_
      with_reducible refine (impl_Filter.calls _ _ t215 _ _ t218 t222 t223 t224 t225 t226 t227 t228 t229 t230 t231 t232 t233 _ ?side1 ?side2 ?side3 ?side4 A15.out).mono ?_
      (case side1 => repeat (first | exact (Kd.R_reads' HO217.out).2.2 | (with_reducible refine Kd.C_alloc ?_ _) | (with_reducible refine Kd.C_drewN ?_ _) | (with_reducible refine Kd.C_drew ?_)))
      (case side2 => exact (Kd.R_reads' HO217.out).2.1)
      (case side3 => repeat (first | exact (Kd.R_reads' HO220.out).2.2 | (with_reducible refine Kd.C_alloc ?_ _) | (with_reducible refine Kd.C_drewN ?_ _) | (with_reducible refine Kd.C_drew ?_)))
      (case side4 => exact (Kd.R_reads' HO220.out).2.1)
      rintro e w54 ⟨rfl, hb⟩
      refine ⟨_, rfl, ?_⟩
      have n0_ := nR HO198 hb
      have n1_ := nR HO201 hb
      have n2_ := nR HO217 hb
      have n3_ := nR HO220 hb
      have n4_ := nblk BK193 hb
      have n5_ := nblk BK194 hb
      have n6_ := nblk BK214 hb
      have n7_ := nblk BK221 hb
      have n8_ := nblk BK234 hb
      have n9_ := nbs HB hb
      clear HO198 HO201 HO217 HO220 BK193 BK194 BK214 BK221 BK234 HB
      have HO198 := n0_
      have HO201 := n1_
      have HO217 := n2_
      have HO220 := n3_
      have BK193 := n4_
      have BK194 := n5_
      have BK214 := n6_
      have BK221 := n7_
      have BK234 := n8_
      have HB := n9_
      clear n0_ n1_ n2_ n3_ n4_ n5_ n6_ n7_ n8_ n9_
      (try clear hb)
      refine hK.out _ _ (c2 BK221 (c6e BK194)) (fun hHeld => ?_)
      clear hK K
      refine norm_ (a' := ?_) ?_ ?_
      rotate_left
      ·show Act.put _ (some 24) _ = _
       simp only [Act.put, List.setIfInBounds_toArray, List.set_cons_zero, List.set_cons_succ, i64_w, i32_w]
       rfl
      exact norm_ (by simp only [putAll, Act.put, List.setIfInBounds_toArray, List.set_cons_zero, List.set_cons_succ]) (hCont (gb234) _ ⟨hHeld, (by (with_reducible repeat (first | apply Kd.R_alloc | apply Kd.R_drewN | apply Kd.R_drew)); exact Kd.R_mono HO198.out (fun _ hk => ⟨hk.1.1, ⟨hk.1.2, hk.2⟩⟩)), (nRo HO201), (by (with_reducible repeat (first | apply Kd.R_alloc | apply Kd.R_drewN | apply Kd.R_drew)); exact Kd.R_mono HO217.out (fun _ hk => ⟨hk.1.1, ⟨hk.1.2, hk.2⟩⟩)), (nRo HO220), (nb BK193), (nb BK194), (nb BK214), (nb BK221), (nb BK234), GW234.out, GE234.out, NB193_234.out, NB234_193.out, NB194_234.out, NB234_194.out, NB214_234.out, NB234_214.out, NB221_234.out, NB234_221.out, (by repeat (first | (with_reducible first | exact HB.out | apply below_alloc | apply pw_below_drewN | apply below_drew1 | refine below_set ?_ GE193.out | refine below_set ?_ GE194.out | refine below_set ?_ GE214.out | refine below_set ?_ GE221.out | refine below_set ?_ GE234.out) | exact HB.out))⟩)
    rintro gb234 w55 ⟨hS_, h0_, h1_, h2_, h3_, h4_, h5_, h6_, h7_, h8_, h9_, h10_, h11_, h12_, h13_, h14_, h15_, h16_, h17_, h18_, h19_⟩
    have n0_ : Aside0 (Kd.R k33 33 w55 w.heap.size (fun k_ => some k_ ≠ (.slice Ao44 t215.length co44 : Value).ownBlock ∧ k_ ≠ gb214 ∧ k_ ≠ gb234) v197 t196) := ⟨h0_⟩
    have n1_ : Aside0 (Kd.R Kd.bool 4 w55 w.heap.size (fun k_ => some k_ ≠ (.slice Ao49 t218.length co49 : Value).ownBlock) v200 t199) := ⟨h1_⟩
    have n2_ : Aside0 (Kd.R k33 33 w55 w.heap.size (fun k_ => some k_ ≠ (v197 : Value).ownBlock ∧ k_ ≠ gb214 ∧ k_ ≠ gb234) (.slice Ao44 t215.length co44) t215) := ⟨h2_⟩
    have n3_ : Aside0 (Kd.R Kd.bool 4 w55 w.heap.size (fun k_ => some k_ ≠ (v200 : Value).ownBlock) (.slice Ao49 t218.length co49) t218) := ⟨h3_⟩
    have n4_ : Aside0 (w55.heap[gb193]? = some (.cells #[.slice A0_0 l0_0.length c0_0, .slice A0_1 l0_1.length c0_1] 25 (0, 0))) := ⟨h4_⟩
    have n5_ : Aside0 (w55.heap[gb194]? = some (.cells #[.int .i64 a1_0, .bool a1_1, .int .i64 a1_2, .int .i64 a1_3, .int .i64 a1_4, .int .i64 a1_5] 29 (0, 0))) := ⟨h5_⟩
    have n6_ : Aside0 (w55.heap[gb214]? = some (.cells #[.int .i64 t208, .bool t209, .int .i64 t210, .int .i64 t211, .int .i64 t212, .int .i64 t213] 33 (0, 0))) := ⟨h6_⟩
    have n7_ : Aside0 (w55.heap[gb221]? = some (.cells #[.slice Ao44 t215.length co44, .slice Ao49 t218.length co49] 37 (0, 0))) := ⟨h7_⟩
    have n8_ : Aside0 (w55.heap[gb234]? = some (.cells #[.int .i64 0, .bool false, .int .i64 0, .int .i64 0, .int .i64 0, .int .i64 0] 33 (0, 0))) := ⟨h8_⟩
    have n9_ : Aside0 (w.heap.size ≤ gb234) := ⟨h9_⟩
    have n10_ : Aside0 (w.heap.size ≤ gb234) := ⟨h10_⟩
    have n11_ : Aside0 (gb193 ≠ gb234) := ⟨h11_⟩
    have n12_ : Aside0 (gb234 ≠ gb193) := ⟨h12_⟩
    have n13_ : Aside0 (gb194 ≠ gb234) := ⟨h13_⟩
    have n14_ : Aside0 (gb234 ≠ gb194) := ⟨h14_⟩
    have n15_ : Aside0 (gb214 ≠ gb234) := ⟨h15_⟩
    have n16_ : Aside0 (gb234 ≠ gb214) := ⟨h16_⟩
    have n17_ : Aside0 (gb221 ≠ gb234) := ⟨h17_⟩
    have n18_ : Aside0 (gb234 ≠ gb221) := ⟨h18_⟩
    have n19_ : Aside0 (Below w.heap.size w w55) := ⟨h19_⟩
    clear HO198 HO201 HO217 HO220 BK193 BK194 BK214 BK221 HB
    clear h0_ h1_ h2_ h3_ h4_ h5_ h6_ h7_ h8_ h9_ h10_ h11_ h12_ h13_ h14_ h15_ h16_ h17_ h18_ h19_
    have HO198 := n0_
    have HO201 := n1_
    have HO217 := n2_
    have HO220 := n3_
    have BK193 := n4_
    have BK194 := n5_
    have BK214 := n6_
    have BK221 := n7_
    have BK234 := n8_
    have GW234 := n9_
    have GE234 := n10_
    have NB193_234 := n11_
    have NB234_193 := n12_
    have NB194_234 := n13_
    have NB234_194 := n14_
    have NB214_234 := n15_
    have NB234_214 := n16_
    have NB221_234 := n17_
    have NB234_221 := n18_
    have HB := n19_
    clear n0_ n1_ n2_ n3_ n4_ n5_ n6_ n7_ n8_ n9_ n10_ n11_ n12_ n13_ n14_ n15_ n16_ n17_ n18_ n19_
    have hHeld : w55.cell? ⟨gb221, 0, none⟩ = some (.slice Ao44 t215.length co44) ∧ w55.cell? ⟨gb221, 1, none⟩ = some (.slice Ao49 t218.length co49) ∧ w55.cell? ⟨gb194, 0, none⟩ = some (.int .i64 a1_0) ∧ w55.cell? ⟨gb194, 1, none⟩ = some (.bool a1_1) ∧ w55.cell? ⟨gb194, 2, none⟩ = some (.int .i64 a1_2) ∧ w55.cell? ⟨gb194, 3, none⟩ = some (.int .i64 a1_3) ∧ w55.cell? ⟨gb194, 4, none⟩ = some (.int .i64 a1_4) ∧ w55.cell? ⟨gb194, 5, none⟩ = some (.int .i64 a1_5) := hS_
    refine norm_ (a' := ?_) ?_ ?_
    rotate_left
    ·simp only [putAll, Act.put, List.setIfInBounds_toArray, List.set_cons_zero, List.set_cons_succ]
     rfl
    refine one_ (i := 5) (N := none) #[true, true, true, true, true, true] rfl rfl (by kernel_rfl) (by decide) (fun K hK => ?_)
    have hs56 : w55.cell? ⟨gb234, 0, none⟩ = some (.int .i64 0) := (blk_cell BK234.out 0).trans rfl
    have hfs56 := blk_frozen BK234.out 0
    have hns56_0 := NB193_234.out
    have hns56_1 := NB194_234.out
    have hns56_2 := NB214_234.out
    have hns56_3 := NB221_234.out
    have hms56_0 := NB234_193.out
    have hms56_1 := NB234_194.out
    have hms56_2 := NB234_214.out
    have hms56_3 := NB234_221.out
    have hs57 : w55.cell? ⟨gb234, 1, none⟩ = some (.bool false) := (blk_cell BK234.out 1).trans rfl
    have hfs57 := blk_frozen BK234.out 1
    have hns57_0 := NB193_234.out
    have hns57_1 := NB194_234.out
    have hns57_2 := NB214_234.out
    have hns57_3 := NB221_234.out
    have hms57_0 := NB234_193.out
    have hms57_1 := NB234_194.out
    have hms57_2 := NB234_214.out
    have hms57_3 := NB234_221.out
    have hs58 : w55.cell? ⟨gb234, 2, none⟩ = some (.int .i64 0) := (blk_cell BK234.out 2).trans rfl
    have hfs58 := blk_frozen BK234.out 2
    have hns58_0 := NB193_234.out
    have hns58_1 := NB194_234.out
    have hns58_2 := NB214_234.out
    have hns58_3 := NB221_234.out
    have hms58_0 := NB234_193.out
    have hms58_1 := NB234_194.out
    have hms58_2 := NB234_214.out
    have hms58_3 := NB234_221.out
    have hs59 : w55.cell? ⟨gb234, 3, none⟩ = some (.int .i64 0) := (blk_cell BK234.out 3).trans rfl
    have hfs59 := blk_frozen BK234.out 3
    have hns59_0 := NB193_234.out
    have hns59_1 := NB194_234.out
    have hns59_2 := NB214_234.out
    have hns59_3 := NB221_234.out
    have hms59_0 := NB234_193.out
    have hms59_1 := NB234_194.out
    have hms59_2 := NB234_214.out
    have hms59_3 := NB234_221.out
    have hs60 : w55.cell? ⟨gb234, 4, none⟩ = some (.int .i64 0) := (blk_cell BK234.out 4).trans rfl
    have hfs60 := blk_frozen BK234.out 4
    have hns60_0 := NB193_234.out
    have hns60_1 := NB194_234.out
    have hns60_2 := NB214_234.out
    have hns60_3 := NB221_234.out
    have hms60_0 := NB234_193.out
    have hms60_1 := NB234_194.out
    have hms60_2 := NB234_214.out
    have hms60_3 := NB234_221.out
    have hs61 : w55.cell? ⟨gb234, 5, none⟩ = some (.int .i64 0) := (blk_cell BK234.out 5).trans rfl
    have hfs61 := blk_frozen BK234.out 5
    have hns61_0 := NB193_234.out
    have hns61_1 := NB194_234.out
    have hns61_2 := NB214_234.out
    have hns61_3 := NB221_234.out
    have hms61_0 := NB234_193.out
    have hms61_1 := NB234_194.out
    have hms61_2 := NB234_214.out
    have hms61_3 := NB234_221.out
    refine skip_ (w1 := ?_) (by rfl) rfl ?_ ?_
    rotate_left
    ·go_simp
     rfl
    refine hK.out _ _ ⟨(g6 NB221_234.out hHeld.1), (g6 NB221_234.out hHeld.2.1), (g6 NB194_234.out hHeld.2.2.1), (g6 NB194_234.out hHeld.2.2.2.1), (g6 NB194_234.out hHeld.2.2.2.2.1), (g6 NB194_234.out hHeld.2.2.2.2.2.1), (g6 NB194_234.out hHeld.2.2.2.2.2.2.1), (g6 NB194_234.out hHeld.2.2.2.2.2.2.2)⟩ (fun hHeld => ?_)
    clear hK K
    refine done_ (by kernel_rfl) ?_
    have hnb62 := NB234_193.out
    have hnc62 := NB193_234.out
    have hnb63 := NB234_194.out
    have hnc63 := NB194_234.out
    have hnb64 := NB234_214.out
    have hnc64 := NB214_234.out
    have hnb65 := NB234_221.out
    have hnc65 := NB221_234.out
    have hcz66_0 : w55.cell? ⟨gb234, 0, none⟩ = some (.int .i64 0) := (blk_cell BK234.out 0).trans rfl
    have hcz66_1 : w55.cell? ⟨gb234, 1, none⟩ = some (.bool false) := (blk_cell BK234.out 1).trans rfl
    have hcz66_2 : w55.cell? ⟨gb234, 2, none⟩ = some (.int .i64 0) := (blk_cell BK234.out 2).trans rfl
    have hcz66_3 : w55.cell? ⟨gb234, 3, none⟩ = some (.int .i64 0) := (blk_cell BK234.out 3).trans rfl
    have hcz66_4 : w55.cell? ⟨gb234, 4, none⟩ = some (.int .i64 0) := (blk_cell BK234.out 4).trans rfl
    have hcz66_5 : w55.cell? ⟨gb234, 5, none⟩ = some (.int .i64 0) := (blk_cell BK234.out 5).trans rfl
    have hfz66_0 := blk_frozen BK234.out 0
    have hfz66_1 := blk_frozen BK234.out 1
    have hfz66_2 := blk_frozen BK234.out 2
    have hfz66_3 := blk_frozen BK234.out 3
    have hfz66_4 := blk_frozen BK234.out 4
    have hfz66_5 := blk_frozen BK234.out 5
    have hnb67 := NB214_194.out
    have hnc67 := NB194_214.out
    have hcz68_0 : w55.cell? ⟨gb214, 0, none⟩ = some (.int .i64 t208) := (blk_cell BK214.out 0).trans rfl
    have hcz68_1 : w55.cell? ⟨gb214, 1, none⟩ = some (.bool t209) := (blk_cell BK214.out 1).trans rfl
    have hcz68_2 : w55.cell? ⟨gb214, 2, none⟩ = some (.int .i64 t210) := (blk_cell BK214.out 2).trans rfl
    have hcz68_3 : w55.cell? ⟨gb214, 3, none⟩ = some (.int .i64 t211) := (blk_cell BK214.out 3).trans rfl
    have hcz68_4 : w55.cell? ⟨gb214, 4, none⟩ = some (.int .i64 t212) := (blk_cell BK214.out 4).trans rfl
    have hcz68_5 : w55.cell? ⟨gb214, 5, none⟩ = some (.int .i64 t213) := (blk_cell BK214.out 5).trans rfl
    have hfz68_0 := blk_frozen BK214.out 0
    have hfz68_1 := blk_frozen BK214.out 1
    have hfz68_2 := blk_frozen BK214.out 2
    have hfz68_3 := blk_frozen BK214.out 3
    have hfz68_4 := blk_frozen BK214.out 4
    have hfz68_5 := blk_frozen BK214.out 5
    try go_wp2_with (first | ((with_reducible refine gate_callee (f := 17) rfl ?_); refine goesM (some 27) rfl rfl Try.func17 (by kernel_rfl) rfl #[.agg #[.int .i64 t228, .bool t229, .int .i64 t230, .int .i64 t231, .int .i64 t232, .int .i64 t233], .agg #[.int .i64 t208, .bool t209, .int .i64 t210, .int .i64 t211, .int .i64 t212, .int .i64 t213]] rfl ?_; (with_reducible refine (laws_eqWord.calls t228 t229 t230 t231 t232 t233 t208 t209 t210 t211 t212 t213 true _ A16.out).mono ?_); rintro e w69 ⟨rfl, hb⟩; refine ⟨_, rfl, ?_⟩; have n0_ := Aside0.mk (Kd.R_below (by (with_reducible repeat (first | apply Kd.R_alloc | apply Kd.R_drewN | apply Kd.R_drew)); exact (f6 (Kd.R_mono HO198.out (fun k_ hk => (⟨hk, hk.2.2⟩ : _ ∧ k_ ≠ gb234))))) hb); have n1_ := Aside0.mk (Kd.R_below (by (with_reducible repeat (first | apply Kd.R_alloc | apply Kd.R_drewN | apply Kd.R_drew)); exact (f6 (Kd.R_types HO201.out BK234.out (by decide)))) hb); have n2_ := Aside0.mk (Kd.R_below (by (with_reducible repeat (first | apply Kd.R_alloc | apply Kd.R_drewN | apply Kd.R_drew)); exact (f6 (Kd.R_mono HO217.out (fun k_ hk => (⟨hk, hk.2.2⟩ : _ ∧ k_ ≠ gb234))))) hb); have n3_ := Aside0.mk (Kd.R_below (by (with_reducible repeat (first | apply Kd.R_alloc | apply Kd.R_drewN | apply Kd.R_drew)); exact (f6 (Kd.R_types HO220.out BK234.out (by decide)))) hb); have n4_ := nblk BK193 hb; have n5_ := nblk BK194 hb; have n6_ := nblk BK214 hb; have n7_ := nblk BK221 hb; have n8_ := Aside0.mk (blk_below (g := gb234) (o := .cells #[.int .i64 t228, .bool t229, .int .i64 t230, .int .i64 t231, .int .i64 t232, .int .i64 t233] 33 (0, 0)) (by (with_reducible repeat (first | refine blk_drewN ?_ _ | refine blk_drew ?_ | refine blk_alloc ?_ _)); refine blk_put (cs := #[.int .i64 t228, .bool t229, .int .i64 t230, .int .i64 t231, .int .i64 t232, .int .i64 0]) ?_ 5 _ rfl; (with_reducible repeat (first | refine blk_drewN ?_ _ | refine blk_drew ?_ | refine blk_alloc ?_ _)); refine blk_put (cs := #[.int .i64 t228, .bool t229, .int .i64 t230, .int .i64 t231, .int .i64 0, .int .i64 0]) ?_ 4 _ rfl; (with_reducible repeat (first | refine blk_drewN ?_ _ | refine blk_drew ?_ | refine blk_alloc ?_ _)); refine blk_put (cs := #[.int .i64 t228, .bool t229, .int .i64 t230, .int .i64 0, .int .i64 0, .int .i64 0]) ?_ 3 _ rfl; (with_reducible repeat (first | refine blk_drewN ?_ _ | refine blk_drew ?_ | refine blk_alloc ?_ _)); refine blk_put (cs := #[.int .i64 t228, .bool t229, .int .i64 0, .int .i64 0, .int .i64 0, .int .i64 0]) ?_ 2 _ rfl; (with_reducible repeat (first | refine blk_drewN ?_ _ | refine blk_drew ?_ | refine blk_alloc ?_ _)); refine blk_put (cs := #[.int .i64 t228, .bool false, .int .i64 0, .int .i64 0, .int .i64 0, .int .i64 0]) ?_ 1 _ rfl; (with_reducible repeat (first | refine blk_drewN ?_ _ | refine blk_drew ?_ | refine blk_alloc ?_ _)); refine blk_put (cs := #[.int .i64 0, .bool false, .int .i64 0, .int .i64 0, .int .i64 0, .int .i64 0]) ?_ 0 _ rfl; (with_reducible repeat (first | refine blk_drewN ?_ _ | refine blk_drew ?_ | refine blk_alloc ?_ _)); exact BK234.out) hb); have n9_ := nbs HB hb; clear HO198 HO201 HO217 HO220 BK193 BK194 BK214 BK221 BK234 HB; have HO198 := n0_; have HO201 := n1_; have HO217 := n2_; have HO220 := n3_; have BK193 := n4_; have BK194 := n5_; have BK214 := n6_; have BK221 := n7_; have BK234 := n8_; have HB := n9_; clear n0_ n1_ n2_ n3_ n4_ n5_ n6_ n7_ n8_ n9_; (try clear hb)))
    have n0_ := Aside0.mk (Kd.R_drew HO198.out)
    have n1_ := Aside0.mk (Kd.R_drew HO201.out)
    have n2_ := Aside0.mk (Kd.R_drew HO217.out)
    have n3_ := Aside0.mk (Kd.R_drew HO220.out)
    have n4_ := Aside0.mk (blk_drew BK193.out)
    have n5_ := Aside0.mk (blk_drew BK194.out)
    have n6_ := Aside0.mk (blk_drew BK214.out)
    have n7_ := Aside0.mk (blk_drew BK221.out)
    have n8_ := Aside0.mk (blk_drew BK234.out)
    have n9_ := Aside0.mk (below_drew1 HB.out)
    clear HO198 HO201 HO217 HO220 BK193 BK194 BK214 BK221 BK234 HB
    have HO198 := n0_
    have HO201 := n1_
    have HO217 := n2_
    have HO220 := n3_
    have BK193 := n4_
    have BK194 := n5_
    have BK214 := n6_
    have BK221 := n7_
    have BK234 := n8_
    have HB := n9_
    clear n0_ n1_ n2_ n3_ n4_ n5_ n6_ n7_ n8_ n9_
    refine start_ (n := 5) (S := fun w' => w'.cell? ⟨gb221, 0, none⟩ = some (.slice Ao44 t215.length co44) ∧ w'.cell? ⟨gb221, 1, none⟩ = some (.slice Ao49 t218.length co49) ∧ w'.cell? ⟨gb193, 0, none⟩ = some (.slice A0_0 l0_0.length c0_0) ∧ w'.cell? ⟨gb193, 1, none⟩ = some (.slice A0_1 l0_1.length c0_1)) (ds := []) #[false, false, false, false, false] (by kernel_rfl) rfl rfl (c2 BK221 (c2e BK193)) (fun hHeld => ?_)
    generalize w69.drew = w70 at HO198 HO201 HO217 HO220 BK193 BK194 BK214 BK221 BK234 HB hHeld ⊢
    refine take_ (i := 0) (N := some 29) (v := ?_) (a' := ?_) #[true, false, false, false, false] rfl rfl (by kernel_rfl) (fun _ _ _ h => h) (Or.inl ⟨by rfl, ?_⟩) hHeld ?_ ?_
    rotate_left
    ·rintro w' ⟨s0, s1, s2, s3⟩
     go_simp
     with_reducible rfl
    rotate_left
    ·simp only [Act.put, List.setIfInBounds_toArray, List.set_cons_zero, List.set_cons_succ, i64_w, i32_w]
     rfl
    refine take_ (i := 1) (N := some 30) (v := ?_) (a' := ?_) #[true, true, false, false, false] rfl rfl (by kernel_rfl) (fun _ _ _ h => h) (Or.inl ⟨by rfl, ?_⟩) hHeld ?_ ?_
    rotate_left
    ·rintro w' ⟨s0, s1, s2, s3⟩
     go_simp
     with_reducible rfl
    rotate_left
    ·simp only [Act.put, List.setIfInBounds_toArray, List.set_cons_zero, List.set_cons_succ, i64_w, i32_w]
     rfl
    refine one_ (i := 2) (N := some 31) #[true, true, true, false, false] rfl rfl (by kernel_rfl) (by decide) (fun K hK => ?_)
    refine goesR Try.func14 (by kernel_rfl) rfl #[.agg #[.slice A0_0 l0_0.length c0_0, .slice A0_1 l0_1.length c0_1]] (by rfl) rfl rfl ?_
    with_reducible refine (laws_toMemory.calls k _ _ l0_0 _ _ l0_1 t236 t239 _ ?side1 ?side2 ?side3 ?side4 A18.out).mono ?_
    (case side1 => repeat (first | exact (Kd.C_below HR0_0.out HB.out) | (with_reducible refine Kd.C_alloc ?_ _) | (with_reducible refine Kd.C_drewN ?_ _) | (with_reducible refine Kd.C_drew ?_)))
    (case side2 => exact HC0_0.out)
    (case side3 => repeat (first | exact (Kd.C_below HR0_1.out HB.out) | (with_reducible refine Kd.C_alloc ?_ _) | (with_reducible refine Kd.C_drewN ?_ _) | (with_reducible refine Kd.C_drew ?_)))
    (case side4 => exact HC0_1.out)
    rintro e w71 ⟨v237, v240, rfl, ho0, ho1, hb⟩
    refine ⟨_, rfl, ?_⟩
    have n0_ := Aside0.mk (Kd.R_elder' (nRo HO198) (Kd.R_base ho0) hb)
    have n1_ := Aside0.mk (Kd.R_elder' (nRo HO201) (Kd.R_base ho1) hb)
    have n2_ := Aside0.mk (Kd.R_elder' (nRo HO217) (Kd.R_base ho0) hb)
    have n3_ := Aside0.mk (Kd.R_elder' (nRo HO220) (Kd.R_base ho1) hb)
    have n4_ := Aside0.mk (Kd.R_lower (Kd.R_newB (Kd.R_newB (Kd.R_new' (Kd.R_new' ho0 (Kd.R_lt (nRo HO198))) (Kd.R_lt (nRo HO217))) (g := gb214) (o := .cells #[.int .i64 t208, .bool t209, .int .i64 t210, .int .i64 t211, .int .i64 t212, .int .i64 t213] 33 (0, 0)) (nb BK214)) (g := gb234) (o := .cells #[.int .i64 t228, .bool t229, .int .i64 t230, .int .i64 t231, .int .i64 t232, .int .i64 t233] 33 (0, 0)) (nb BK234)) (below_size (by repeat (first | (with_reducible first | exact HB.out | apply below_alloc | apply pw_below_drewN | apply below_drew1 | refine below_set ?_ GE193.out | refine below_set ?_ GE194.out | refine below_set ?_ GE214.out | refine below_set ?_ GE221.out | refine below_set ?_ GE234.out) | exact HB.out))))
    have n5_ := Aside0.mk (Kd.R_lower (Kd.R_new' (Kd.R_new' ho1 (Kd.R_lt (nRo HO201))) (Kd.R_lt (nRo HO220))) (below_size (by repeat (first | (with_reducible first | exact HB.out | apply below_alloc | apply pw_below_drewN | apply below_drew1 | refine below_set ?_ GE193.out | refine below_set ?_ GE194.out | refine below_set ?_ GE214.out | refine below_set ?_ GE221.out | refine below_set ?_ GE234.out) | exact HB.out))))
    have n6_ := nblk BK193 hb
    have n7_ := nblk BK194 hb
    have n8_ := nblk BK214 hb
    have n9_ := nblk BK221 hb
    have n10_ := nblk BK234 hb
    have n11_ := nbs HB hb
    clear HO198 HO201 HO217 HO220 BK193 BK194 BK214 BK221 BK234 HB
    have HO198 := n0_
    have HO201 := n1_
    have HO217 := n2_
    have HO220 := n3_
    have HO238 := n4_
    have HO241 := n5_
    have BK193 := n6_
    have BK194 := n7_
    have BK214 := n8_
    have BK221 := n9_
    have BK234 := n10_
    have HB := n11_
    clear n0_ n1_ n2_ n3_ n4_ n5_ n6_ n7_ n8_ n9_ n10_ n11_
    (try clear hb)
    (try clear ho0)
    (try clear ho1)
    obtain ⟨Ao72, co72, eo72⟩ := Kd.R_slice HO238.out
    (first | subst eo72 | (injection eo72 with f1_ f2_ f3_; have f4_ := f1_.symm; have f5_ := f3_.symm; clear f1_ f2_ f3_; subst f4_; subst f5_))
    obtain ⟨Ao73, co73, eo73⟩ := Kd.R_slice HO241.out
    (first | subst eo73 | (injection eo73 with f1_ f2_ f3_; have f4_ := f1_.symm; have f5_ := f3_.symm; clear f1_ f2_ f3_; subst f4_; subst f5_))
    refine hK.out _ _ (c2 BK221 (c2e BK193)) (fun hHeld => ?_)
    clear hK K
    refine norm_ (a' := ?_) ?_ ?_
    rotate_left
    ·show Act.put _ (some 31) _ = _
     simp only [Act.put, List.setIfInBounds_toArray, List.set_cons_zero, List.set_cons_succ, i64_w, i32_w]
     rfl
    refine one_ (i := 3) (N := some 32) #[true, true, true, true, false] rfl rfl (by kernel_rfl) (by decide) (fun K hK => ?_)
    refine goesR Try.func18 (by kernel_rfl) rfl #[.agg #[.slice Ao44 t215.length co44, .slice Ao49 t218.length co49], .agg #[.slice Ao72 t236.length co72, .slice Ao73 t239.length co73]] (by rfl) rfl rfl ?_
    with_reducible refine (laws_eqMemory.calls k _ _ t215 _ _ t218 _ _ t236 _ _ t239 true _ ?side1 ?side2 ?side3 ?side4 ?side5 ?side6 ?side7 ?side8 A19.out).mono ?_
    (case side1 => repeat (first | exact (Kd.R_reads' HO217.out).2.2 | (with_reducible refine Kd.C_alloc ?_ _) | (with_reducible refine Kd.C_drewN ?_ _) | (with_reducible refine Kd.C_drew ?_)))
    (case side2 => exact (Kd.R_reads' HO217.out).2.1)
    (case side3 => repeat (first | exact (Kd.R_reads' HO220.out).2.2 | (with_reducible refine Kd.C_alloc ?_ _) | (with_reducible refine Kd.C_drewN ?_ _) | (with_reducible refine Kd.C_drew ?_)))
    (case side4 => exact (Kd.R_reads' HO220.out).2.1)
    (case side5 => repeat (first | exact (Kd.R_reads' HO238.out).2.2 | (with_reducible refine Kd.C_alloc ?_ _) | (with_reducible refine Kd.C_drewN ?_ _) | (with_reducible refine Kd.C_drew ?_)))
    (case side6 => exact (Kd.R_reads' HO238.out).2.1)
    (case side7 => repeat (first | exact (Kd.R_reads' HO241.out).2.2 | (with_reducible refine Kd.C_alloc ?_ _) | (with_reducible refine Kd.C_drewN ?_ _) | (with_reducible refine Kd.C_drew ?_)))
    (case side8 => exact (Kd.R_reads' HO241.out).2.1)
    rintro e w74 ⟨rfl, hb⟩
    refine ⟨_, rfl, ?_⟩
    have n0_ := nR HO198 hb
    have n1_ := nR HO201 hb
    have n2_ := nR HO217 hb
    have n3_ := nR HO220 hb
    have n4_ := nR HO238 hb
    have n5_ := nR HO241 hb
    have n6_ := nblk BK193 hb
    have n7_ := nblk BK194 hb
    have n8_ := nblk BK214 hb
    have n9_ := nblk BK221 hb
    have n10_ := nblk BK234 hb
    have n11_ := nbs HB hb
    clear HO198 HO201 HO217 HO220 HO238 HO241 BK193 BK194 BK214 BK221 BK234 HB
    have HO198 := n0_
    have HO201 := n1_
    have HO217 := n2_
    have HO220 := n3_
    have HO238 := n4_
    have HO241 := n5_
    have BK193 := n6_
    have BK194 := n7_
    have BK214 := n8_
    have BK221 := n9_
    have BK234 := n10_
    have HB := n11_
    clear n0_ n1_ n2_ n3_ n4_ n5_ n6_ n7_ n8_ n9_ n10_ n11_
    (try clear hb)
    refine hK.out _ _ (c2 BK221 (c2e BK193)) (fun hHeld => ?_)
    clear hK K
    refine norm_ (a' := ?_) ?_ ?_
    rotate_left
    ·show Act.put _ (some 32) _ = _
     simp only [Act.put, List.setIfInBounds_toArray, List.set_cons_zero, List.set_cons_succ, i64_w, i32_w]
     rfl
    refine pure_ (i := 4) (N := some 33) (v := ?_) (a' := ?_) #[true, true, true, true, true] rfl rfl (by kernel_rfl) (fun _ _ _ h => h) (Or.inl ⟨by rfl, ?_⟩) ?_ ?_
    rotate_left
    ·intro w'
     go_simp
     with_reducible rfl
    rotate_left
    ·simp only [Act.put, List.setIfInBounds_toArray, List.set_cons_zero, List.set_cons_succ, i64_w, i32_w]
     rfl
    refine done_ (by kernel_rfl) ?_
    try go_wp2
    go_ret
    exact ⟨by first | rfl | (simp [errW_none, errW_some] <;> rfl) | (simp [*, errW_none, errW_some] <;> rfl), by repeat (first | (with_reducible first | exact HB.out | apply below_alloc | apply pw_below_drewN | apply below_drew1 | refine below_set ?_ GE193.out | refine below_set ?_ GE194.out | refine below_set ?_ GE214.out | refine below_set ?_ GE221.out | refine below_set ?_ GE234.out) | exact HB.out)⟩
   ·replace c20 := Bool.eq_false_iff.mpr c20
    subst c20
    have H1 : (some false) = some r := by rw [if_neg (show ¬ (false = true) by decide)] at H; exact H
    clear H
    have H := H1
    clear H1
    obtain rfl := Option.some.inj H
    go_enter Try.func3, Try.ntmps3
    try go_wp2_with (first | ((with_reducible refine gate_dst (N := 2) rfl ?_); refine box_event ?hg (N := 2) ?hd (cs := #[.slice A0_0 l0_0.length c0_0, .slice A0_1 l0_1.length c0_1]) (t := 25) ?hr ?_; (case hd => rfl); (case hg => rfl); (case hr => first | (go_simp; done) | (go_simp; rfl)); intro gb193 hg w75 hbox hb; have n0_ := nbs HB hb; have n1_ := Aside0.mk (hbox); have n2_ := nge HB hg; have n3_ := nge HB hg; clear HB; have HB := n0_; have BK193 := n1_; have GW193 := n2_; have GE193 := n3_; clear n0_ n1_ n2_ n3_; clear hb hbox hg) | ((with_reducible refine gate_dst (N := 3) rfl ?_); refine box_event ?hg (N := 3) ?hd (cs := #[.int .i64 a1_0, .bool a1_1, .int .i64 a1_2, .int .i64 a1_3, .int .i64 a1_4, .int .i64 a1_5]) (t := 29) ?hr ?_; (case hd => rfl); (case hg => rfl); (case hr => first | (go_simp; done) | (go_simp; rfl)); intro gb194 hg w76 hbox hb; have n0_ := nblk BK193 hb; have n1_ := nbs HB hb; have n2_ := Aside0.mk (hbox); have n3_ := nge HB hg; have n4_ := nge HB hg; have n5_ := nlt BK193 hg; have n6_ := ngt BK193 hg; clear BK193 HB; have BK193 := n0_; have HB := n1_; have BK194 := n2_; have GW194 := n3_; have GE194 := n4_; have NB193_194 := n5_; have NB194_193 := n6_; clear n0_ n1_ n2_ n3_ n4_ n5_ n6_; clear hb hbox hg; have hnb77 := NB193_194.out; have hnc77 := NB194_193.out; have hcz78_0 : w76.cell? ⟨gb193, 0, none⟩ = some (.slice A0_0 l0_0.length c0_0) := (blk_cell BK193.out 0).trans rfl; have hcz78_1 : w76.cell? ⟨gb193, 1, none⟩ = some (.slice A0_1 l0_1.length c0_1) := (blk_cell BK193.out 1).trans rfl; have hfz78_0 := blk_frozen BK193.out 0; have hfz78_1 := blk_frozen BK193.out 1) | ((with_reducible refine gate_callee (f := 12) rfl ?_); refine goesM (some 11) rfl rfl Try.func12 (by kernel_rfl) rfl #[.agg #[.slice A0_0 l0_0.length c0_0, .slice A0_1 l0_1.length c0_1], .int .i64 1048576] rfl ?_; (with_reducible refine (laws_szMemory.calls _ _ l0_0 _ _ l0_1 1048576 t195 _ ?side1 ?side2 ?side3 ?side4 A3.out).mono ?_); (case side1 => repeat (first | exact (Kd.C_below HR0_0.out HB.out) | (with_reducible refine Kd.C_alloc ?_ _) | (with_reducible refine Kd.C_drewN ?_ _) | (with_reducible refine Kd.C_drew ?_))); (case side2 => exact HC0_0.out); (case side3 => repeat (first | exact (Kd.C_below HR0_1.out HB.out) | (with_reducible refine Kd.C_alloc ?_ _) | (with_reducible refine Kd.C_drewN ?_ _) | (with_reducible refine Kd.C_drew ?_))); (case side4 => exact HC0_1.out); rintro e w79 ⟨rfl, hb⟩; refine ⟨_, rfl, ?_⟩; have n0_ := nblk BK193 hb; have n1_ := nblk BK194 hb; have n2_ := nbs HB hb; clear BK193 BK194 HB; have BK193 := n0_; have BK194 := n1_; have HB := n2_; clear n0_ n1_ n2_; (try clear hb)))
    have n0_ := Aside0.mk (blk_drew BK193.out)
    have n1_ := Aside0.mk (blk_drew BK194.out)
    have n2_ := Aside0.mk (below_drew1 HB.out)
    clear BK193 BK194 HB
    have BK193 := n0_
    have BK194 := n1_
    have HB := n2_
    clear n0_ n1_ n2_
    refine start_ (n := 7) (S := fun w' => w'.cell? ⟨gb193, 0, none⟩ = some (.slice A0_0 l0_0.length c0_0) ∧ w'.cell? ⟨gb193, 1, none⟩ = some (.slice A0_1 l0_1.length c0_1) ∧ w'.cell? ⟨gb194, 0, none⟩ = some (.int .i64 a1_0) ∧ w'.cell? ⟨gb194, 1, none⟩ = some (.bool a1_1) ∧ w'.cell? ⟨gb194, 2, none⟩ = some (.int .i64 a1_2) ∧ w'.cell? ⟨gb194, 3, none⟩ = some (.int .i64 a1_3) ∧ w'.cell? ⟨gb194, 4, none⟩ = some (.int .i64 a1_4) ∧ w'.cell? ⟨gb194, 5, none⟩ = some (.int .i64 a1_5)) (ds := []) #[false, false, false, false, false, false, false] (by kernel_rfl) rfl rfl (c2 BK193 (c6e BK194)) (fun hHeld => ?_)
    generalize w79.drew = w80 at BK193 BK194 HB hHeld ⊢
    refine take_ (i := 0) (N := some 14) (v := ?_) (a' := ?_) #[true, false, false, false, false, false, false] rfl rfl (by kernel_rfl) (fun _ _ _ h => h) (Or.inl ⟨by rfl, ?_⟩) hHeld ?_ ?_
    rotate_left
    ·rintro w' ⟨s0, s1, s2, s3, s4, s5, s6, s7⟩
     go_simp
     with_reducible rfl
    rotate_left
    ·simp only [Act.put, List.setIfInBounds_toArray, List.set_cons_zero, List.set_cons_succ, i64_w, i32_w]
     rfl
    refine take_ (i := 2) (N := some 16) (v := ?_) (a' := ?_) #[true, false, true, false, false, false, false] rfl rfl (by kernel_rfl) (fun _ _ _ h => h) (Or.inl ⟨by rfl, ?_⟩) hHeld ?_ ?_
    rotate_left
    ·rintro w' ⟨s0, s1, s2, s3, s4, s5, s6, s7⟩
     go_simp
     with_reducible rfl
    rotate_left
    ·simp only [Act.put, List.setIfInBounds_toArray, List.set_cons_zero, List.set_cons_succ, i64_w, i32_w]
     rfl
    refine join_ (σ := Value × Value × Nat) 1 #[true, true, true, true, true, true, false] (fun s_ => [(15, .agg #[s_.1, s_.2.1]), (17, .agg #[.int .i64 t202, .bool t203, .int .i64 t204, .int .i64 t205, .int .i64 t206, .int .i64 t207]), (18, .agg #[.int .i64 t208, .bool t209, .int .i64 t210, .int .i64 t211, .int .i64 t212, .int .i64 t213]), (6, .pointer (some ⟨s_.2.2, 0, none⟩))]) (fun s_ w' => (w'.cell? ⟨gb193, 0, none⟩ = some (.slice A0_0 l0_0.length c0_0) ∧ w'.cell? ⟨gb193, 1, none⟩ = some (.slice A0_1 l0_1.length c0_1) ∧ w'.cell? ⟨gb194, 0, none⟩ = some (.int .i64 a1_0) ∧ w'.cell? ⟨gb194, 1, none⟩ = some (.bool a1_1) ∧ w'.cell? ⟨gb194, 2, none⟩ = some (.int .i64 a1_2) ∧ w'.cell? ⟨gb194, 3, none⟩ = some (.int .i64 a1_3) ∧ w'.cell? ⟨gb194, 4, none⟩ = some (.int .i64 a1_4) ∧ w'.cell? ⟨gb194, 5, none⟩ = some (.int .i64 a1_5)) ∧ (Kd.R k33 33 w' w.heap.size (fun k_ => k_ ≠ s_.2.2) s_.1 t196) ∧ (Kd.R Kd.bool 4 w' w.heap.size (fun _ => True) s_.2.1 t199) ∧ (w'.heap[gb193]? = some (.cells #[.slice A0_0 l0_0.length c0_0, .slice A0_1 l0_1.length c0_1] 25 (0, 0))) ∧ (w'.heap[gb194]? = some (.cells #[.int .i64 a1_0, .bool a1_1, .int .i64 a1_2, .int .i64 a1_3, .int .i64 a1_4, .int .i64 a1_5] 29 (0, 0))) ∧ (w'.heap[s_.2.2]? = some (.cells #[.int .i64 0, .bool false, .int .i64 0, .int .i64 0, .int .i64 0, .int .i64 0] 33 (0, 0))) ∧ (w.heap.size ≤ s_.2.2) ∧ (w.heap.size ≤ s_.2.2) ∧ (gb193 ≠ s_.2.2) ∧ (s_.2.2 ≠ gb193) ∧ (gb194 ≠ s_.2.2) ∧ (s_.2.2 ≠ gb194) ∧ (Below w.heap.size w w')) ?_ ?_
    rotate_left
    ·intro hCont
     refine two_ (i := 1) (j := 5) (Ni := some 15) (Nj := some 6) #[true, true, true, false, false, false, false] #[true, false, true, false, false, true, false] rfl rfl rfl rfl (by kernel_rfl) (by decide) (by decide) (fun K hK => ?_) (fun K hK => ?_)
     ·skip
      refine goesR Try.func14 (by kernel_rfl) rfl #[.agg #[.slice A0_0 l0_0.length c0_0, .slice A0_1 l0_1.length c0_1]] (by rfl) rfl rfl ?_
      with_reducible refine (laws_toMemory.calls k _ _ l0_0 _ _ l0_1 t196 t199 _ ?side1 ?side2 ?side3 ?side4 A10.out).mono ?_
      (case side1 => repeat (first | exact (Kd.C_below HR0_0.out HB.out) | (with_reducible refine Kd.C_alloc ?_ _) | (with_reducible refine Kd.C_drewN ?_ _) | (with_reducible refine Kd.C_drew ?_)))
      (case side2 => exact HC0_0.out)
      (case side3 => repeat (first | exact (Kd.C_below HR0_1.out HB.out) | (with_reducible refine Kd.C_alloc ?_ _) | (with_reducible refine Kd.C_drewN ?_ _) | (with_reducible refine Kd.C_drew ?_)))
      (case side4 => exact HC0_1.out)
      rintro e w81 ⟨v197, v200, rfl, ho0, ho1, hb⟩
      refine ⟨_, rfl, ?_⟩
      have n0_ := Aside0.mk (Kd.R_lower ho0 (below_size (by repeat (first | (with_reducible first | exact HB.out | apply below_alloc | apply pw_below_drewN | apply below_drew1 | refine below_set ?_ GE193.out | refine below_set ?_ GE194.out) | exact HB.out))))
      have n1_ := Aside0.mk (Kd.R_lower ho1 (below_size (by repeat (first | (with_reducible first | exact HB.out | apply below_alloc | apply pw_below_drewN | apply below_drew1 | refine below_set ?_ GE193.out | refine below_set ?_ GE194.out) | exact HB.out))))
      have n2_ := nblk BK193 hb
      have n3_ := nblk BK194 hb
      have n4_ := nbs HB hb
      clear BK193 BK194 HB
      have HO198 := n0_
      have HO201 := n1_
      have BK193 := n2_
      have BK194 := n3_
      have HB := n4_
      clear n0_ n1_ n2_ n3_ n4_
      (try clear hb)
      (try clear ho0)
      (try clear ho1)
      refine hK.out _ _ (c2 BK193 (c6e BK194)) (fun hHeld => ?_)
      clear hK K
      refine norm_ (a' := ?_) ?_ ?_
      rotate_left
      ·show Act.put _ (some 15) _ = _
       simp only [Act.put, List.setIfInBounds_toArray, List.set_cons_zero, List.set_cons_succ, i64_w, i32_w]
       rfl
      refine two_ (i := 3) (j := 5) (Ni := some 17) (Nj := some 6) #[true, true, true, true, false, false, false] #[true, true, true, false, false, true, false] rfl rfl rfl rfl (by kernel_rfl) (by decide) (by decide) (fun K hK => ?_) (fun K hK => ?_)
      ·skip
       refine goesR Try.func15 (by kernel_rfl) rfl #[.agg #[.int .i64 a1_0, .bool a1_1, .int .i64 a1_2, .int .i64 a1_3, .int .i64 a1_4, .int .i64 a1_5]] (by rfl) rfl rfl ?_
       with_reducible refine (laws_toWord.calls a1_0 a1_1 a1_2 a1_3 a1_4 a1_5 t202 t203 t204 t205 t206 t207 _ A11.out).mono ?_
       rintro e w82 ⟨rfl, hb⟩
       refine ⟨_, rfl, ?_⟩
       have n0_ := nR HO198 hb
       have n1_ := nR HO201 hb
       have n2_ := nblk BK193 hb
       have n3_ := nblk BK194 hb
       have n4_ := nbs HB hb
       clear HO198 HO201 BK193 BK194 HB
       have HO198 := n0_
       have HO201 := n1_
       have BK193 := n2_
       have BK194 := n3_
       have HB := n4_
       clear n0_ n1_ n2_ n3_ n4_
       (try clear hb)
       obtain ⟨Ao83, co83, eo83⟩ := Kd.R_slice HO198.out
       (first | subst eo83 | (injection eo83 with f1_ f2_ f3_; have f4_ := f1_.symm; have f5_ := f3_.symm; clear f1_ f2_ f3_; subst f4_; subst f5_))
       obtain ⟨Ao84, co84, eo84⟩ := Kd.R_slice HO201.out
       (first | subst eo84 | (injection eo84 with f1_ f2_ f3_; have f4_ := f1_.symm; have f5_ := f3_.symm; clear f1_ f2_ f3_; subst f4_; subst f5_))
       refine hK.out _ _ (c2 BK193 (c6e BK194)) (fun hHeld => ?_)
       clear hK K
       refine norm_ (a' := ?_) ?_ ?_
       rotate_left
       ·show Act.put _ (some 17) _ = _
        simp only [Act.put, List.setIfInBounds_toArray, List.set_cons_zero, List.set_cons_succ, i64_w, i32_w]
        rfl
       refine two_ (i := 4) (j := 5) (Ni := some 18) (Nj := some 6) #[true, true, true, true, true, false, false] #[true, true, true, true, false, true, false] rfl rfl rfl rfl (by kernel_rfl) (by decide) (by decide) (fun K hK => ?_) (fun K hK => ?_)
       ·skip
        refine goesR Try.func13 (by kernel_rfl) rfl #[.agg #[.slice Ao83 t196.length co83, .slice Ao84 t199.length co84], .agg #[.int .i64 t202, .bool t203, .int .i64 t204, .int .i64 t205, .int .i64 t206, .int .i64 t207]] (by rfl) rfl rfl ?_
        with_reducible refine (spec_Filter.calls _ _ t196 _ _ t199 t202 t203 t204 t205 t206 t207 t208 t209 t210 t211 t212 t213 _ ?side1 ?side2 ?side3 ?side4 A12.out).mono ?_
        (case side1 => repeat (first | exact (Kd.R_reads' HO198.out).2.2 | (with_reducible refine Kd.C_alloc ?_ _) | (with_reducible refine Kd.C_drewN ?_ _) | (with_reducible refine Kd.C_drew ?_)))
        (case side2 => exact (Kd.R_reads' HO198.out).2.1)
        (case side3 => repeat (first | exact (Kd.R_reads' HO201.out).2.2 | (with_reducible refine Kd.C_alloc ?_ _) | (with_reducible refine Kd.C_drewN ?_ _) | (with_reducible refine Kd.C_drew ?_)))
        (case side4 => exact (Kd.R_reads' HO201.out).2.1)
        rintro e w85 ⟨rfl, hb⟩
        refine ⟨_, rfl, ?_⟩
        have n0_ := nR HO198 hb
        have n1_ := nR HO201 hb
        have n2_ := nblk BK193 hb
        have n3_ := nblk BK194 hb
        have n4_ := nbs HB hb
        clear HO198 HO201 BK193 BK194 HB
        have HO198 := n0_
        have HO201 := n1_
        have BK193 := n2_
        have BK194 := n3_
        have HB := n4_
        clear n0_ n1_ n2_ n3_ n4_
        (try clear hb)
        refine hK.out _ _ (c2 BK193 (c6e BK194)) (fun hHeld => ?_)
        clear hK K
        refine norm_ (a' := ?_) ?_ ?_
        rotate_left
        ·show Act.put _ (some 18) _ = _
         simp only [Act.put, List.setIfInBounds_toArray, List.set_cons_zero, List.set_cons_succ, i64_w, i32_w]
         rfl
        refine one_ (i := 5) (N := some 6) #[true, true, true, true, true, true, false] rfl rfl (by kernel_rfl) (by decide) (fun K hK => ?_)
        refine box_step ?hg (N := 6) ?hd (cs := #[.int .i64 0, .bool false, .int .i64 0, .int .i64 0, .int .i64 0, .int .i64 0]) (t := 33) ?hr ?_; (case hd => rfl); (case hg => rfl); (case hr => first | (go_simp; done) | (go_simp; rfl))
        intro gb214 hg w86 hbox hb
        have n0_ := Aside0.mk (Kd.R_below (Kd.R_elderB (nRo HO198) gb214 (Nat.le_of_eq hg.symm)) hb)
        have n1_ := nR HO201 hb
        have n2_ := nblk BK193 hb
        have n3_ := nblk BK194 hb
        have n4_ := nbs HB hb
        have n5_ := Aside0.mk (hbox)
        have n6_ := nge HB hg
        have n7_ := nge HB hg
        have n8_ := nlt BK193 hg
        have n9_ := ngt BK193 hg
        have n10_ := nlt BK194 hg
        have n11_ := ngt BK194 hg
        clear HO198 HO201 BK193 BK194 HB
        have HO198 := n0_
        have HO201 := n1_
        have BK193 := n2_
        have BK194 := n3_
        have HB := n4_
        have BK214 := n5_
        have GW214 := n6_
        have GE214 := n7_
        have NB193_214 := n8_
        have NB214_193 := n9_
        have NB194_214 := n10_
        have NB214_194 := n11_
        clear n0_ n1_ n2_ n3_ n4_ n5_ n6_ n7_ n8_ n9_ n10_ n11_
        clear hb hbox hg
        refine hK.out _ _ (c2 BK193 (c6e BK194)) (fun hHeld => ?_)
        clear hK K
        refine norm_ (a' := ?_) ?_ ?_
        rotate_left
        ·show Act.put _ (some 6) _ = _
         simp only [Act.put, List.setIfInBounds_toArray, List.set_cons_zero, List.set_cons_succ, i64_w, i32_w]
         rfl
        exact norm_ (by simp only [putAll, Act.put, List.setIfInBounds_toArray, List.set_cons_zero, List.set_cons_succ]) (hCont (.slice Ao83 t196.length co83, .slice Ao84 t199.length co84, gb214) _ ⟨hHeld, (by (with_reducible repeat (first | apply Kd.R_alloc | apply Kd.R_drewN | apply Kd.R_drew)); exact Kd.R_mono HO198.out (fun _ hk => hk.2)), (nRo HO201), (nb BK193), (nb BK194), (nb BK214), GW214.out, GE214.out, NB193_214.out, NB214_193.out, NB194_214.out, NB214_194.out, (by repeat (first | (with_reducible first | exact HB.out | apply below_alloc | apply pw_below_drewN | apply below_drew1 | refine below_set ?_ GE193.out | refine below_set ?_ GE194.out | refine below_set ?_ GE214.out) | exact HB.out))⟩)
       ·skip
        refine box_step ?hg (N := 6) ?hd (cs := #[.int .i64 0, .bool false, .int .i64 0, .int .i64 0, .int .i64 0, .int .i64 0]) (t := 33) ?hr ?_; (case hd => rfl); (case hg => rfl); (case hr => first | (go_simp; done) | (go_simp; rfl))
        intro gb214 hg w83 hbox hb
        have n0_ := Aside0.mk (Kd.R_below (Kd.R_elderB (nRo HO198) gb214 (Nat.le_of_eq hg.symm)) hb)
        have n1_ := nR HO201 hb
        have n2_ := nblk BK193 hb
        have n3_ := nblk BK194 hb
        have n4_ := nbs HB hb
        have n5_ := Aside0.mk (hbox)
        have n6_ := nge HB hg
        have n7_ := nge HB hg
        have n8_ := nlt BK193 hg
        have n9_ := ngt BK193 hg
        have n10_ := nlt BK194 hg
        have n11_ := ngt BK194 hg
        clear HO198 HO201 BK193 BK194 HB
        have HO198 := n0_
        have HO201 := n1_
        have BK193 := n2_
        have BK194 := n3_
        have HB := n4_
        have BK214 := n5_
        have GW214 := n6_
        have GE214 := n7_
        have NB193_214 := n8_
        have NB214_193 := n9_
        have NB194_214 := n10_
        have NB214_194 := n11_
        clear n0_ n1_ n2_ n3_ n4_ n5_ n6_ n7_ n8_ n9_ n10_ n11_
        clear hb hbox hg
        obtain ⟨Ao84, co84, eo84⟩ := Kd.R_slice HO198.out
        (first | subst eo84 | (injection eo84 with f1_ f2_ f3_; have f4_ := f1_.symm; have f5_ := f3_.symm; clear f1_ f2_ f3_; subst f4_; subst f5_))
        obtain ⟨Ao85, co85, eo85⟩ := Kd.R_slice HO201.out
        (first | subst eo85 | (injection eo85 with f1_ f2_ f3_; have f4_ := f1_.symm; have f5_ := f3_.symm; clear f1_ f2_ f3_; subst f4_; subst f5_))
        refine hK.out _ _ (c2 BK193 (c6e BK194)) (fun hHeld => ?_)
        clear hK K
        refine norm_ (a' := ?_) ?_ ?_
        rotate_left
        ·show Act.put _ (some 6) _ = _
         simp only [Act.put, List.setIfInBounds_toArray, List.set_cons_zero, List.set_cons_succ, i64_w, i32_w]
         rfl
        refine one_ (i := 4) (N := some 18) #[true, true, true, true, true, true, false] rfl rfl (by kernel_rfl) (by decide) (fun K hK => ?_)
        refine goesR Try.func13 (by kernel_rfl) rfl #[.agg #[.slice Ao84 t196.length co84, .slice Ao85 t199.length co85], .agg #[.int .i64 t202, .bool t203, .int .i64 t204, .int .i64 t205, .int .i64 t206, .int .i64 t207]] (by rfl) rfl rfl ?_
        with_reducible refine (spec_Filter.calls _ _ t196 _ _ t199 t202 t203 t204 t205 t206 t207 t208 t209 t210 t211 t212 t213 _ ?side1 ?side2 ?side3 ?side4 A12.out).mono ?_
        (case side1 => repeat (first | exact (Kd.R_reads' HO198.out).2.2 | (with_reducible refine Kd.C_alloc ?_ _) | (with_reducible refine Kd.C_drewN ?_ _) | (with_reducible refine Kd.C_drew ?_)))
        (case side2 => exact (Kd.R_reads' HO198.out).2.1)
        (case side3 => repeat (first | exact (Kd.R_reads' HO201.out).2.2 | (with_reducible refine Kd.C_alloc ?_ _) | (with_reducible refine Kd.C_drewN ?_ _) | (with_reducible refine Kd.C_drew ?_)))
        (case side4 => exact (Kd.R_reads' HO201.out).2.1)
        rintro e w86 ⟨rfl, hb⟩
        refine ⟨_, rfl, ?_⟩
        have n0_ := nR HO198 hb
        have n1_ := nR HO201 hb
        have n2_ := nblk BK193 hb
        have n3_ := nblk BK194 hb
        have n4_ := nblk BK214 hb
        have n5_ := nbs HB hb
        clear HO198 HO201 BK193 BK194 BK214 HB
        have HO198 := n0_
        have HO201 := n1_
        have BK193 := n2_
        have BK194 := n3_
        have BK214 := n4_
        have HB := n5_
        clear n0_ n1_ n2_ n3_ n4_ n5_
        (try clear hb)
        refine hK.out _ _ (c2 BK193 (c6e BK194)) (fun hHeld => ?_)
        clear hK K
        refine norm_ (a' := ?_) ?_ ?_
        rotate_left
        ·show Act.put _ (some 18) _ = _
         simp only [Act.put, List.setIfInBounds_toArray, List.set_cons_zero, List.set_cons_succ, i64_w, i32_w]
         rfl
        exact norm_ (by simp only [putAll, Act.put, List.setIfInBounds_toArray, List.set_cons_zero, List.set_cons_succ]) (hCont (.slice Ao84 t196.length co84, .slice Ao85 t199.length co85, gb214) _ ⟨hHeld, (by (with_reducible repeat (first | apply Kd.R_alloc | apply Kd.R_drewN | apply Kd.R_drew)); exact Kd.R_mono HO198.out (fun _ hk => hk.2)), (nRo HO201), (nb BK193), (nb BK194), (nb BK214), GW214.out, GE214.out, NB193_214.out, NB214_193.out, NB194_214.out, NB214_194.out, (by repeat (first | (with_reducible first | exact HB.out | apply below_alloc | apply pw_below_drewN | apply below_drew1 | refine below_set ?_ GE193.out | refine below_set ?_ GE194.out | refine below_set ?_ GE214.out) | exact HB.out))⟩)
      ·skip
       refine box_step ?hg (N := 6) ?hd (cs := #[.int .i64 0, .bool false, .int .i64 0, .int .i64 0, .int .i64 0, .int .i64 0]) (t := 33) ?hr ?_; (case hd => rfl); (case hg => rfl); (case hr => first | (go_simp; done) | (go_simp; rfl))
       intro gb214 hg w82 hbox hb
       have n0_ := Aside0.mk (Kd.R_below (Kd.R_elderB (nRo HO198) gb214 (Nat.le_of_eq hg.symm)) hb)
       have n1_ := nR HO201 hb
       have n2_ := nblk BK193 hb
       have n3_ := nblk BK194 hb
       have n4_ := nbs HB hb
       have n5_ := Aside0.mk (hbox)
       have n6_ := nge HB hg
       have n7_ := nge HB hg
       have n8_ := nlt BK193 hg
       have n9_ := ngt BK193 hg
       have n10_ := nlt BK194 hg
       have n11_ := ngt BK194 hg
       clear HO198 HO201 BK193 BK194 HB
       have HO198 := n0_
       have HO201 := n1_
       have BK193 := n2_
       have BK194 := n3_
       have HB := n4_
       have BK214 := n5_
       have GW214 := n6_
       have GE214 := n7_
       have NB193_214 := n8_
       have NB214_193 := n9_
       have NB194_214 := n10_
       have NB214_194 := n11_
       clear n0_ n1_ n2_ n3_ n4_ n5_ n6_ n7_ n8_ n9_ n10_ n11_
       clear hb hbox hg
       refine hK.out _ _ (c2 BK193 (c6e BK194)) (fun hHeld => ?_)
       clear hK K
       refine norm_ (a' := ?_) ?_ ?_
       rotate_left
       ·show Act.put _ (some 6) _ = _
        simp only [Act.put, List.setIfInBounds_toArray, List.set_cons_zero, List.set_cons_succ, i64_w, i32_w]
        rfl
       refine one_ (i := 3) (N := some 17) #[true, true, true, true, false, true, false] rfl rfl (by kernel_rfl) (by decide) (fun K hK => ?_)
       refine goesR Try.func15 (by kernel_rfl) rfl #[.agg #[.int .i64 a1_0, .bool a1_1, .int .i64 a1_2, .int .i64 a1_3, .int .i64 a1_4, .int .i64 a1_5]] (by rfl) rfl rfl ?_
       with_reducible refine (laws_toWord.calls a1_0 a1_1 a1_2 a1_3 a1_4 a1_5 t202 t203 t204 t205 t206 t207 _ A11.out).mono ?_
       rintro e w83 ⟨rfl, hb⟩
       refine ⟨_, rfl, ?_⟩
       have n0_ := nR HO198 hb
       have n1_ := nR HO201 hb
       have n2_ := nblk BK193 hb
       have n3_ := nblk BK194 hb
       have n4_ := nblk BK214 hb
       have n5_ := nbs HB hb
       clear HO198 HO201 BK193 BK194 BK214 HB
       have HO198 := n0_
       have HO201 := n1_
       have BK193 := n2_
       have BK194 := n3_
       have BK214 := n4_
       have HB := n5_
       clear n0_ n1_ n2_ n3_ n4_ n5_
       (try clear hb)
       obtain ⟨Ao84, co84, eo84⟩ := Kd.R_slice HO198.out
       (first | subst eo84 | (injection eo84 with f1_ f2_ f3_; have f4_ := f1_.symm; have f5_ := f3_.symm; clear f1_ f2_ f3_; subst f4_; subst f5_))
       obtain ⟨Ao85, co85, eo85⟩ := Kd.R_slice HO201.out
       (first | subst eo85 | (injection eo85 with f1_ f2_ f3_; have f4_ := f1_.symm; have f5_ := f3_.symm; clear f1_ f2_ f3_; subst f4_; subst f5_))
       refine hK.out _ _ (c2 BK193 (c6e BK194)) (fun hHeld => ?_)
       clear hK K
       refine norm_ (a' := ?_) ?_ ?_
       rotate_left
       ·show Act.put _ (some 17) _ = _
        simp only [Act.put, List.setIfInBounds_toArray, List.set_cons_zero, List.set_cons_succ, i64_w, i32_w]
        rfl
       refine one_ (i := 4) (N := some 18) #[true, true, true, true, true, true, false] rfl rfl (by kernel_rfl) (by decide) (fun K hK => ?_)
       refine goesR Try.func13 (by kernel_rfl) rfl #[.agg #[.slice Ao84 t196.length co84, .slice Ao85 t199.length co85], .agg #[.int .i64 t202, .bool t203, .int .i64 t204, .int .i64 t205, .int .i64 t206, .int .i64 t207]] (by rfl) rfl rfl ?_
       with_reducible refine (spec_Filter.calls _ _ t196 _ _ t199 t202 t203 t204 t205 t206 t207 t208 t209 t210 t211 t212 t213 _ ?side1 ?side2 ?side3 ?side4 A12.out).mono ?_
       (case side1 => repeat (first | exact (Kd.R_reads' HO198.out).2.2 | (with_reducible refine Kd.C_alloc ?_ _) | (with_reducible refine Kd.C_drewN ?_ _) | (with_reducible refine Kd.C_drew ?_)))
       (case side2 => exact (Kd.R_reads' HO198.out).2.1)
       (case side3 => repeat (first | exact (Kd.R_reads' HO201.out).2.2 | (with_reducible refine Kd.C_alloc ?_ _) | (with_reducible refine Kd.C_drewN ?_ _) | (with_reducible refine Kd.C_drew ?_)))
       (case side4 => exact (Kd.R_reads' HO201.out).2.1)
       rintro e w86 ⟨rfl, hb⟩
       refine ⟨_, rfl, ?_⟩
       have n0_ := nR HO198 hb
       have n1_ := nR HO201 hb
       have n2_ := nblk BK193 hb
       have n3_ := nblk BK194 hb
       have n4_ := nblk BK214 hb
       have n5_ := nbs HB hb
       clear HO198 HO201 BK193 BK194 BK214 HB
       have HO198 := n0_
       have HO201 := n1_
       have BK193 := n2_
       have BK194 := n3_
       have BK214 := n4_
       have HB := n5_
       clear n0_ n1_ n2_ n3_ n4_ n5_
       (try clear hb)
       refine hK.out _ _ (c2 BK193 (c6e BK194)) (fun hHeld => ?_)
       clear hK K
       refine norm_ (a' := ?_) ?_ ?_
       rotate_left
       ·show Act.put _ (some 18) _ = _
        simp only [Act.put, List.setIfInBounds_toArray, List.set_cons_zero, List.set_cons_succ, i64_w, i32_w]
        rfl
       exact norm_ (by simp only [putAll, Act.put, List.setIfInBounds_toArray, List.set_cons_zero, List.set_cons_succ]) (hCont (.slice Ao84 t196.length co84, .slice Ao85 t199.length co85, gb214) _ ⟨hHeld, (by (with_reducible repeat (first | apply Kd.R_alloc | apply Kd.R_drewN | apply Kd.R_drew)); exact Kd.R_mono HO198.out (fun _ hk => hk.2)), (nRo HO201), (nb BK193), (nb BK194), (nb BK214), GW214.out, GE214.out, NB193_214.out, NB214_193.out, NB194_214.out, NB214_194.out, (by repeat (first | (with_reducible first | exact HB.out | apply below_alloc | apply pw_below_drewN | apply below_drew1 | refine below_set ?_ GE193.out | refine below_set ?_ GE194.out | refine below_set ?_ GE214.out) | exact HB.out))⟩)
     ·skip
      refine box_step ?hg (N := 6) ?hd (cs := #[.int .i64 0, .bool false, .int .i64 0, .int .i64 0, .int .i64 0, .int .i64 0]) (t := 33) ?hr ?_; (case hd => rfl); (case hg => rfl); (case hr => first | (go_simp; done) | (go_simp; rfl))
      intro gb214 hg w81 hbox hb
      have n0_ := nblk BK193 hb
      have n1_ := nblk BK194 hb
      have n2_ := nbs HB hb
      have n3_ := Aside0.mk (hbox)
      have n4_ := nge HB hg
      have n5_ := nge HB hg
      have n6_ := nlt BK193 hg
      have n7_ := ngt BK193 hg
      have n8_ := nlt BK194 hg
      have n9_ := ngt BK194 hg
      clear BK193 BK194 HB
      have BK193 := n0_
      have BK194 := n1_
      have HB := n2_
      have BK214 := n3_
      have GW214 := n4_
      have GE214 := n5_
      have NB193_214 := n6_
      have NB214_193 := n7_
      have NB194_214 := n8_
      have NB214_194 := n9_
      clear n0_ n1_ n2_ n3_ n4_ n5_ n6_ n7_ n8_ n9_
      clear hb hbox hg
      refine hK.out _ _ (c2 BK193 (c6e BK194)) (fun hHeld => ?_)
      clear hK K
      refine norm_ (a' := ?_) ?_ ?_
      rotate_left
      ·show Act.put _ (some 6) _ = _
       simp only [Act.put, List.setIfInBounds_toArray, List.set_cons_zero, List.set_cons_succ, i64_w, i32_w]
       rfl
      refine one_ (i := 1) (N := some 15) #[true, true, true, false, false, true, false] rfl rfl (by kernel_rfl) (by decide) (fun K hK => ?_)
      refine goesR Try.func14 (by kernel_rfl) rfl #[.agg #[.slice A0_0 l0_0.length c0_0, .slice A0_1 l0_1.length c0_1]] (by rfl) rfl rfl ?_
      with_reducible refine (laws_toMemory.calls k _ _ l0_0 _ _ l0_1 t196 t199 _ ?side1 ?side2 ?side3 ?side4 A10.out).mono ?_
      (case side1 => repeat (first | exact (Kd.C_below HR0_0.out HB.out) | (with_reducible refine Kd.C_alloc ?_ _) | (with_reducible refine Kd.C_drewN ?_ _) | (with_reducible refine Kd.C_drew ?_)))
      (case side2 => exact HC0_0.out)
      (case side3 => repeat (first | exact (Kd.C_below HR0_1.out HB.out) | (with_reducible refine Kd.C_alloc ?_ _) | (with_reducible refine Kd.C_drewN ?_ _) | (with_reducible refine Kd.C_drew ?_)))
      (case side4 => exact HC0_1.out)
      rintro e w82 ⟨v197, v200, rfl, ho0, ho1, hb⟩
      refine ⟨_, rfl, ?_⟩
      have n0_ := Aside0.mk (Kd.R_lower (Kd.R_newB ho0 (g := gb214) (o := .cells #[.int .i64 0, .bool false, .int .i64 0, .int .i64 0, .int .i64 0, .int .i64 0] 33 (0, 0)) (nb BK214)) (below_size (by repeat (first | (with_reducible first | exact HB.out | apply below_alloc | apply pw_below_drewN | apply below_drew1 | refine below_set ?_ GE193.out | refine below_set ?_ GE194.out | refine below_set ?_ GE214.out) | exact HB.out))))
      have n1_ := Aside0.mk (Kd.R_lower ho1 (below_size (by repeat (first | (with_reducible first | exact HB.out | apply below_alloc | apply pw_below_drewN | apply below_drew1 | refine below_set ?_ GE193.out | refine below_set ?_ GE194.out | refine below_set ?_ GE214.out) | exact HB.out))))
      have n2_ := nblk BK193 hb
      have n3_ := nblk BK194 hb
      have n4_ := nblk BK214 hb
      have n5_ := nbs HB hb
      clear BK193 BK194 BK214 HB
      have HO198 := n0_
      have HO201 := n1_
      have BK193 := n2_
      have BK194 := n3_
      have BK214 := n4_
      have HB := n5_
      clear n0_ n1_ n2_ n3_ n4_ n5_
      (try clear hb)
      (try clear ho0)
      (try clear ho1)
      refine hK.out _ _ (c2 BK193 (c6e BK194)) (fun hHeld => ?_)
      clear hK K
      refine norm_ (a' := ?_) ?_ ?_
      rotate_left
      ·show Act.put _ (some 15) _ = _
       simp only [Act.put, List.setIfInBounds_toArray, List.set_cons_zero, List.set_cons_succ, i64_w, i32_w]
       rfl
      refine one_ (i := 3) (N := some 17) #[true, true, true, true, false, true, false] rfl rfl (by kernel_rfl) (by decide) (fun K hK => ?_)
      refine goesR Try.func15 (by kernel_rfl) rfl #[.agg #[.int .i64 a1_0, .bool a1_1, .int .i64 a1_2, .int .i64 a1_3, .int .i64 a1_4, .int .i64 a1_5]] (by rfl) rfl rfl ?_
      with_reducible refine (laws_toWord.calls a1_0 a1_1 a1_2 a1_3 a1_4 a1_5 t202 t203 t204 t205 t206 t207 _ A11.out).mono ?_
      rintro e w83 ⟨rfl, hb⟩
      refine ⟨_, rfl, ?_⟩
      have n0_ := nR HO198 hb
      have n1_ := nR HO201 hb
      have n2_ := nblk BK193 hb
      have n3_ := nblk BK194 hb
      have n4_ := nblk BK214 hb
      have n5_ := nbs HB hb
      clear HO198 HO201 BK193 BK194 BK214 HB
      have HO198 := n0_
      have HO201 := n1_
      have BK193 := n2_
      have BK194 := n3_
      have BK214 := n4_
      have HB := n5_
      clear n0_ n1_ n2_ n3_ n4_ n5_
      (try clear hb)
      obtain ⟨Ao84, co84, eo84⟩ := Kd.R_slice HO198.out
      (first | subst eo84 | (injection eo84 with f1_ f2_ f3_; have f4_ := f1_.symm; have f5_ := f3_.symm; clear f1_ f2_ f3_; subst f4_; subst f5_))
      obtain ⟨Ao85, co85, eo85⟩ := Kd.R_slice HO201.out
      (first | subst eo85 | (injection eo85 with f1_ f2_ f3_; have f4_ := f1_.symm; have f5_ := f3_.symm; clear f1_ f2_ f3_; subst f4_; subst f5_))
      refine hK.out _ _ (c2 BK193 (c6e BK194)) (fun hHeld => ?_)
      clear hK K
      refine norm_ (a' := ?_) ?_ ?_
      rotate_left
      ·show Act.put _ (some 17) _ = _
       simp only [Act.put, List.setIfInBounds_toArray, List.set_cons_zero, List.set_cons_succ, i64_w, i32_w]
       rfl
      refine one_ (i := 4) (N := some 18) #[true, true, true, true, true, true, false] rfl rfl (by kernel_rfl) (by decide) (fun K hK => ?_)
      refine goesR Try.func13 (by kernel_rfl) rfl #[.agg #[.slice Ao84 t196.length co84, .slice Ao85 t199.length co85], .agg #[.int .i64 t202, .bool t203, .int .i64 t204, .int .i64 t205, .int .i64 t206, .int .i64 t207]] (by rfl) rfl rfl ?_
      with_reducible refine (spec_Filter.calls _ _ t196 _ _ t199 t202 t203 t204 t205 t206 t207 t208 t209 t210 t211 t212 t213 _ ?side1 ?side2 ?side3 ?side4 A12.out).mono ?_
      (case side1 => repeat (first | exact (Kd.R_reads' HO198.out).2.2 | (with_reducible refine Kd.C_alloc ?_ _) | (with_reducible refine Kd.C_drewN ?_ _) | (with_reducible refine Kd.C_drew ?_)))
      (case side2 => exact (Kd.R_reads' HO198.out).2.1)
      (case side3 => repeat (first | exact (Kd.R_reads' HO201.out).2.2 | (with_reducible refine Kd.C_alloc ?_ _) | (with_reducible refine Kd.C_drewN ?_ _) | (with_reducible refine Kd.C_drew ?_)))
      (case side4 => exact (Kd.R_reads' HO201.out).2.1)
      rintro e w86 ⟨rfl, hb⟩
      refine ⟨_, rfl, ?_⟩
      have n0_ := nR HO198 hb
      have n1_ := nR HO201 hb
      have n2_ := nblk BK193 hb
      have n3_ := nblk BK194 hb
      have n4_ := nblk BK214 hb
      have n5_ := nbs HB hb
      clear HO198 HO201 BK193 BK194 BK214 HB
      have HO198 := n0_
      have HO201 := n1_
      have BK193 := n2_
      have BK194 := n3_
      have BK214 := n4_
      have HB := n5_
      clear n0_ n1_ n2_ n3_ n4_ n5_
      (try clear hb)
      refine hK.out _ _ (c2 BK193 (c6e BK194)) (fun hHeld => ?_)
      clear hK K
      refine norm_ (a' := ?_) ?_ ?_
      rotate_left
      ·show Act.put _ (some 18) _ = _
       simp only [Act.put, List.setIfInBounds_toArray, List.set_cons_zero, List.set_cons_succ, i64_w, i32_w]
       rfl
      exact norm_ (by simp only [putAll, Act.put, List.setIfInBounds_toArray, List.set_cons_zero, List.set_cons_succ]) (hCont (.slice Ao84 t196.length co84, .slice Ao85 t199.length co85, gb214) _ ⟨hHeld, (by (with_reducible repeat (first | apply Kd.R_alloc | apply Kd.R_drewN | apply Kd.R_drew)); exact Kd.R_mono HO198.out (fun _ hk => hk.2)), (nRo HO201), (nb BK193), (nb BK194), (nb BK214), GW214.out, GE214.out, NB193_214.out, NB214_193.out, NB194_214.out, NB214_194.out, (by repeat (first | (with_reducible first | exact HB.out | apply below_alloc | apply pw_below_drewN | apply below_drew1 | refine below_set ?_ GE193.out | refine below_set ?_ GE194.out | refine below_set ?_ GE214.out) | exact HB.out))⟩)
    rintro ⟨v197, v200, gb214⟩ w87 ⟨hS_, h0_, h1_, h2_, h3_, h4_, h5_, h6_, h7_, h8_, h9_, h10_, h11_⟩
    have n0_ : Aside0 (Kd.R k33 33 w87 w.heap.size (fun k_ => k_ ≠ gb214) v197 t196) := ⟨h0_⟩
    have n1_ : Aside0 (Kd.R Kd.bool 4 w87 w.heap.size (fun _ => True) v200 t199) := ⟨h1_⟩
    have n2_ : Aside0 (w87.heap[gb193]? = some (.cells #[.slice A0_0 l0_0.length c0_0, .slice A0_1 l0_1.length c0_1] 25 (0, 0))) := ⟨h2_⟩
    have n3_ : Aside0 (w87.heap[gb194]? = some (.cells #[.int .i64 a1_0, .bool a1_1, .int .i64 a1_2, .int .i64 a1_3, .int .i64 a1_4, .int .i64 a1_5] 29 (0, 0))) := ⟨h3_⟩
    have n4_ : Aside0 (w87.heap[gb214]? = some (.cells #[.int .i64 0, .bool false, .int .i64 0, .int .i64 0, .int .i64 0, .int .i64 0] 33 (0, 0))) := ⟨h4_⟩
    have n5_ : Aside0 (w.heap.size ≤ gb214) := ⟨h5_⟩
    have n6_ : Aside0 (w.heap.size ≤ gb214) := ⟨h6_⟩
    have n7_ : Aside0 (gb193 ≠ gb214) := ⟨h7_⟩
    have n8_ : Aside0 (gb214 ≠ gb193) := ⟨h8_⟩
    have n9_ : Aside0 (gb194 ≠ gb214) := ⟨h9_⟩
    have n10_ : Aside0 (gb214 ≠ gb194) := ⟨h10_⟩
    have n11_ : Aside0 (Below w.heap.size w w87) := ⟨h11_⟩
    clear BK193 BK194 HB
    clear h0_ h1_ h2_ h3_ h4_ h5_ h6_ h7_ h8_ h9_ h10_ h11_
    have HO198 := n0_
    have HO201 := n1_
    have BK193 := n2_
    have BK194 := n3_
    have BK214 := n4_
    have GW214 := n5_
    have GE214 := n6_
    have NB193_214 := n7_
    have NB214_193 := n8_
    have NB194_214 := n9_
    have NB214_194 := n10_
    have HB := n11_
    clear n0_ n1_ n2_ n3_ n4_ n5_ n6_ n7_ n8_ n9_ n10_ n11_
    have hHeld : w87.cell? ⟨gb193, 0, none⟩ = some (.slice A0_0 l0_0.length c0_0) ∧ w87.cell? ⟨gb193, 1, none⟩ = some (.slice A0_1 l0_1.length c0_1) ∧ w87.cell? ⟨gb194, 0, none⟩ = some (.int .i64 a1_0) ∧ w87.cell? ⟨gb194, 1, none⟩ = some (.bool a1_1) ∧ w87.cell? ⟨gb194, 2, none⟩ = some (.int .i64 a1_2) ∧ w87.cell? ⟨gb194, 3, none⟩ = some (.int .i64 a1_3) ∧ w87.cell? ⟨gb194, 4, none⟩ = some (.int .i64 a1_4) ∧ w87.cell? ⟨gb194, 5, none⟩ = some (.int .i64 a1_5) := hS_
    refine norm_ (a' := ?_) ?_ ?_
    rotate_left
    ·simp only [putAll, Act.put, List.setIfInBounds_toArray, List.set_cons_zero, List.set_cons_succ]
     rfl
    refine one_ (i := 6) (N := none) #[true, true, true, true, true, true, true] rfl rfl (by kernel_rfl) (by decide) (fun K hK => ?_)
    have hs88 : w87.cell? ⟨gb214, 0, none⟩ = some (.int .i64 0) := (blk_cell BK214.out 0).trans rfl
    have hfs88 := blk_frozen BK214.out 0
    have hns88_0 := NB193_214.out
    have hns88_1 := NB194_214.out
    have hms88_0 := NB214_193.out
    have hms88_1 := NB214_194.out
    have hs89 : w87.cell? ⟨gb214, 1, none⟩ = some (.bool false) := (blk_cell BK214.out 1).trans rfl
    have hfs89 := blk_frozen BK214.out 1
    have hns89_0 := NB193_214.out
    have hns89_1 := NB194_214.out
    have hms89_0 := NB214_193.out
    have hms89_1 := NB214_194.out
    have hs90 : w87.cell? ⟨gb214, 2, none⟩ = some (.int .i64 0) := (blk_cell BK214.out 2).trans rfl
    have hfs90 := blk_frozen BK214.out 2
    have hns90_0 := NB193_214.out
    have hns90_1 := NB194_214.out
    have hms90_0 := NB214_193.out
    have hms90_1 := NB214_194.out
    have hs91 : w87.cell? ⟨gb214, 3, none⟩ = some (.int .i64 0) := (blk_cell BK214.out 3).trans rfl
    have hfs91 := blk_frozen BK214.out 3
    have hns91_0 := NB193_214.out
    have hns91_1 := NB194_214.out
    have hms91_0 := NB214_193.out
    have hms91_1 := NB214_194.out
    have hs92 : w87.cell? ⟨gb214, 4, none⟩ = some (.int .i64 0) := (blk_cell BK214.out 4).trans rfl
    have hfs92 := blk_frozen BK214.out 4
    have hns92_0 := NB193_214.out
    have hns92_1 := NB194_214.out
    have hms92_0 := NB214_193.out
    have hms92_1 := NB214_194.out
    have hs93 : w87.cell? ⟨gb214, 5, none⟩ = some (.int .i64 0) := (blk_cell BK214.out 5).trans rfl
    have hfs93 := blk_frozen BK214.out 5
    have hns93_0 := NB193_214.out
    have hns93_1 := NB194_214.out
    have hms93_0 := NB214_193.out
    have hms93_1 := NB214_194.out
    refine skip_ (w1 := ?_) (by rfl) rfl ?_ ?_
    rotate_left
    ·go_simp
     rfl
    refine hK.out _ _ ⟨(g6 NB193_214.out hHeld.1), (g6 NB193_214.out hHeld.2.1), (g6 NB194_214.out hHeld.2.2.1), (g6 NB194_214.out hHeld.2.2.2.1), (g6 NB194_214.out hHeld.2.2.2.2.1), (g6 NB194_214.out hHeld.2.2.2.2.2.1), (g6 NB194_214.out hHeld.2.2.2.2.2.2.1), (g6 NB194_214.out hHeld.2.2.2.2.2.2.2)⟩ (fun hHeld => ?_)
    clear hK K
    refine done_ (by kernel_rfl) ?_
    have hnb94 := NB193_214.out
    have hnc94 := NB214_193.out
    have hcz95_0 : w87.cell? ⟨gb193, 0, none⟩ = some (.slice A0_0 l0_0.length c0_0) := (blk_cell BK193.out 0).trans rfl
    have hcz95_1 : w87.cell? ⟨gb193, 1, none⟩ = some (.slice A0_1 l0_1.length c0_1) := (blk_cell BK193.out 1).trans rfl
    have hfz95_0 := blk_frozen BK193.out 0
    have hfz95_1 := blk_frozen BK193.out 1
    try go_wp2_with (first | ((with_reducible refine gate_callee (f := 14) rfl ?_); refine goesM (some 20) rfl rfl Try.func14 (by kernel_rfl) rfl #[.agg #[.slice A0_0 l0_0.length c0_0, .slice A0_1 l0_1.length c0_1]] rfl ?_; (with_reducible refine (laws_toMemory.calls k _ _ l0_0 _ _ l0_1 t215 t218 _ ?side1 ?side2 ?side3 ?side4 A13.out).mono ?_); (case side1 => exact Kd.C_below HR0_0.out (by repeat (first | (with_reducible first | exact HB.out | apply below_alloc | apply pw_below_drewN | apply below_drew1 | refine below_set ?_ GE193.out | refine below_set ?_ GE194.out | refine below_set ?_ GE214.out) | exact HB.out))); (case side2 => exact HC0_0.out); (case side3 => exact Kd.C_below HR0_1.out (by repeat (first | (with_reducible first | exact HB.out | apply below_alloc | apply pw_below_drewN | apply below_drew1 | refine below_set ?_ GE193.out | refine below_set ?_ GE194.out | refine below_set ?_ GE214.out) | exact HB.out))); (case side4 => exact HC0_1.out); rintro e w96 ⟨v216, v219, rfl, ho0, ho1, hb⟩; refine ⟨_, rfl, ?_⟩; have n0_ := Aside0.mk (Kd.R_elder' (by (with_reducible repeat (first | apply Kd.R_alloc | apply Kd.R_drewN | apply Kd.R_drew)); exact (f6 (Kd.R_mono HO198.out (fun k_ hk => (⟨hk, hk⟩ : _ ∧ k_ ≠ gb214))))) (Kd.R_base ho0) hb); have n1_ := Aside0.mk (Kd.R_elder' (by (with_reducible repeat (first | apply Kd.R_alloc | apply Kd.R_drewN | apply Kd.R_drew)); exact (f6 (Kd.R_types HO201.out BK214.out (by decide)))) (Kd.R_base ho1) hb); have n2_ := Aside0.mk (Kd.R_lower (Kd.R_newB (Kd.R_new' ho0 (Kd.R_lt (by (with_reducible repeat (first | apply Kd.R_alloc | apply Kd.R_drewN | apply Kd.R_drew)); exact (f6 (Kd.R_mono HO198.out (fun k_ hk => (⟨hk, hk⟩ : _ ∧ k_ ≠ gb214))))))) (g := gb214) (o := .cells #[.int .i64 t208, .bool t209, .int .i64 t210, .int .i64 t211, .int .i64 t212, .int .i64 t213] 33 (0, 0)) (by (with_reducible repeat (first | refine blk_drewN ?_ _ | refine blk_drew ?_ | refine blk_alloc ?_ _)); refine blk_put (cs := #[.int .i64 t208, .bool t209, .int .i64 t210, .int .i64 t211, .int .i64 t212, .int .i64 0]) ?_ 5 _ rfl; (with_reducible repeat (first | refine blk_drewN ?_ _ | refine blk_drew ?_ | refine blk_alloc ?_ _)); refine blk_put (cs := #[.int .i64 t208, .bool t209, .int .i64 t210, .int .i64 t211, .int .i64 0, .int .i64 0]) ?_ 4 _ rfl; (with_reducible repeat (first | refine blk_drewN ?_ _ | refine blk_drew ?_ | refine blk_alloc ?_ _)); refine blk_put (cs := #[.int .i64 t208, .bool t209, .int .i64 t210, .int .i64 0, .int .i64 0, .int .i64 0]) ?_ 3 _ rfl; (with_reducible repeat (first | refine blk_drewN ?_ _ | refine blk_drew ?_ | refine blk_alloc ?_ _)); refine blk_put (cs := #[.int .i64 t208, .bool t209, .int .i64 0, .int .i64 0, .int .i64 0, .int .i64 0]) ?_ 2 _ rfl; (with_reducible repeat (first | refine blk_drewN ?_ _ | refine blk_drew ?_ | refine blk_alloc ?_ _)); refine blk_put (cs := #[.int .i64 t208, .bool false, .int .i64 0, .int .i64 0, .int .i64 0, .int .i64 0]) ?_ 1 _ rfl; (with_reducible repeat (first | refine blk_drewN ?_ _ | refine blk_drew ?_ | refine blk_alloc ?_ _)); refine blk_put (cs := #[.int .i64 0, .bool false, .int .i64 0, .int .i64 0, .int .i64 0, .int .i64 0]) ?_ 0 _ rfl; (with_reducible repeat (first | refine blk_drewN ?_ _ | refine blk_drew ?_ | refine blk_alloc ?_ _)); exact BK214.out)) (below_size (by repeat (first | (with_reducible first | exact HB.out | apply below_alloc | apply pw_below_drewN | apply below_drew1 | refine below_set ?_ GE193.out | refine below_set ?_ GE194.out | refine below_set ?_ GE214.out) | exact HB.out)))); have n3_ := Aside0.mk (Kd.R_lower (Kd.R_new' ho1 (Kd.R_lt (by (with_reducible repeat (first | apply Kd.R_alloc | apply Kd.R_drewN | apply Kd.R_drew)); exact (f6 (Kd.R_types HO201.out BK214.out (by decide)))))) (below_size (by repeat (first | (with_reducible first | exact HB.out | apply below_alloc | apply pw_below_drewN | apply below_drew1 | refine below_set ?_ GE193.out | refine below_set ?_ GE194.out | refine below_set ?_ GE214.out) | exact HB.out)))); have n4_ := nblk BK193 hb; have n5_ := nblk BK194 hb; have n6_ := Aside0.mk (blk_below (g := gb214) (o := .cells #[.int .i64 t208, .bool t209, .int .i64 t210, .int .i64 t211, .int .i64 t212, .int .i64 t213] 33 (0, 0)) (by (with_reducible repeat (first | refine blk_drewN ?_ _ | refine blk_drew ?_ | refine blk_alloc ?_ _)); refine blk_put (cs := #[.int .i64 t208, .bool t209, .int .i64 t210, .int .i64 t211, .int .i64 t212, .int .i64 0]) ?_ 5 _ rfl; (with_reducible repeat (first | refine blk_drewN ?_ _ | refine blk_drew ?_ | refine blk_alloc ?_ _)); refine blk_put (cs := #[.int .i64 t208, .bool t209, .int .i64 t210, .int .i64 t211, .int .i64 0, .int .i64 0]) ?_ 4 _ rfl; (with_reducible repeat (first | refine blk_drewN ?_ _ | refine blk_drew ?_ | refine blk_alloc ?_ _)); refine blk_put (cs := #[.int .i64 t208, .bool t209, .int .i64 t210, .int .i64 0, .int .i64 0, .int .i64 0]) ?_ 3 _ rfl; (with_reducible repeat (first | refine blk_drewN ?_ _ | refine blk_drew ?_ | refine blk_alloc ?_ _)); refine blk_put (cs := #[.int .i64 t208, .bool t209, .int .i64 0, .int .i64 0, .int .i64 0, .int .i64 0]) ?_ 2 _ rfl; (with_reducible repeat (first | refine blk_drewN ?_ _ | refine blk_drew ?_ | refine blk_alloc ?_ _)); refine blk_put (cs := #[.int .i64 t208, .bool false, .int .i64 0, .int .i64 0, .int .i64 0, .int .i64 0]) ?_ 1 _ rfl; (with_reducible repeat (first | refine blk_drewN ?_ _ | refine blk_drew ?_ | refine blk_alloc ?_ _)); refine blk_put (cs := #[.int .i64 0, .bool false, .int .i64 0, .int .i64 0, .int .i64 0, .int .i64 0]) ?_ 0 _ rfl; (with_reducible repeat (first | refine blk_drewN ?_ _ | refine blk_drew ?_ | refine blk_alloc ?_ _)); exact BK214.out) hb); have n7_ := nbs HB hb; clear HO198 HO201 BK193 BK194 BK214 HB; have HO198 := n0_; have HO201 := n1_; have HO217 := n2_; have HO220 := n3_; have BK193 := n4_; have BK194 := n5_; have BK214 := n6_; have HB := n7_; clear n0_ n1_ n2_ n3_ n4_ n5_ n6_ n7_; (try clear hb); (try clear ho0); (try clear ho1)) | ((with_reducible refine gate_dst (N := 7) rfl ?_); refine box_event ?hg (N := 7) ?hd (cs := #[.slice none 0 0, .slice none 0 0]) (t := 37) ?hr ?_; (case hd => rfl); (case hg => rfl); (case hr => first | (go_simp; done) | (go_simp; rfl)); intro gb221 hg w97 hbox hb; have n0_ := nR HO198 hb; have n1_ := nR HO201 hb; have n2_ := nR HO217 hb; have n3_ := nR HO220 hb; have n4_ := nblk BK193 hb; have n5_ := nblk BK194 hb; have n6_ := nblk BK214 hb; have n7_ := nbs HB hb; have n8_ := Aside0.mk (hbox); have n9_ := nge HB hg; have n10_ := nge HB hg; have n11_ := nlt BK193 hg; have n12_ := ngt BK193 hg; have n13_ := nlt BK194 hg; have n14_ := ngt BK194 hg; have n15_ := nlt BK214 hg; have n16_ := ngt BK214 hg; clear HO198 HO201 HO217 HO220 BK193 BK194 BK214 HB; have HO198 := n0_; have HO201 := n1_; have HO217 := n2_; have HO220 := n3_; have BK193 := n4_; have BK194 := n5_; have BK214 := n6_; have HB := n7_; have BK221 := n8_; have GW221 := n9_; have GE221 := n10_; have NB193_221 := n11_; have NB221_193 := n12_; have NB194_221 := n13_; have NB221_194 := n14_; have NB214_221 := n15_; have NB221_214 := n16_; clear n0_ n1_ n2_ n3_ n4_ n5_ n6_ n7_ n8_ n9_ n10_ n11_ n12_ n13_ n14_ n15_ n16_; clear hb hbox hg; obtain ⟨Ao98, co98, eo98⟩ := Kd.R_slice HO217.out; subst eo98; have hnb99 := NB221_193.out; have hnc99 := NB193_221.out; have hnb100 := NB221_194.out; have hnc100 := NB194_221.out; have hnb101 := NB221_214.out; have hnc101 := NB214_221.out; have hcz102_0 : w97.cell? ⟨gb221, 0, none⟩ = some (.slice none 0 0) := (blk_cell BK221.out 0).trans rfl; have hcz102_1 : w97.cell? ⟨gb221, 1, none⟩ = some (.slice none 0 0) := (blk_cell BK221.out 1).trans rfl; have hfz102_0 := blk_frozen BK221.out 0; have hfz102_1 := blk_frozen BK221.out 1; obtain ⟨Ao103, co103, eo103⟩ := Kd.R_slice HO220.out; subst eo103))
    have n0_ : Aside0 (Kd.R k33 33 ((w97.setCell ⟨gb221, 0, none⟩ (.slice Ao98 t215.length co98)).setCell ⟨gb221, 1, none⟩ (.slice Ao103 t218.length co103)) w.heap.size (fun k_ => some k_ ≠ (.slice Ao98 t215.length co98 : Value).ownBlock ∧ k_ ≠ gb214) v197 t196) := ⟨by (with_reducible repeat (first | apply Kd.R_alloc | apply Kd.R_drewN | apply Kd.R_drew)); exact Kd.R_mono (Kd.R_far (p := ⟨gb221, 1, none⟩) (Kd.R_far (p := ⟨gb221, 0, none⟩) (Kd.R_types HO198.out BK221.out (by decide)) (fun _ hk => hk.2) (.slice Ao98 t215.length co98)) (fun _ hk => hk.2) (.slice Ao103 t218.length co103)) (fun _ hk => ⟨hk.1.2, hk.1.1⟩)⟩
    have n1_ : Aside0 (Kd.R Kd.bool 4 ((w97.setCell ⟨gb221, 0, none⟩ (.slice Ao98 t215.length co98)).setCell ⟨gb221, 1, none⟩ (.slice Ao103 t218.length co103)) w.heap.size (fun k_ => some k_ ≠ (.slice Ao103 t218.length co103 : Value).ownBlock) v200 t199) := ⟨by (with_reducible repeat (first | apply Kd.R_alloc | apply Kd.R_drewN | apply Kd.R_drew)); exact Kd.R_mono (Kd.R_far (p := ⟨gb221, 1, none⟩) (Kd.R_far (p := ⟨gb221, 0, none⟩) (Kd.R_types HO201.out BK221.out (by decide)) (fun _ hk => hk.2) (.slice Ao98 t215.length co98)) (fun _ hk => hk.2) (.slice Ao103 t218.length co103)) (fun _ hk => hk.1.2)⟩
    have n2_ : Aside0 (Kd.R k33 33 ((w97.setCell ⟨gb221, 0, none⟩ (.slice Ao98 t215.length co98)).setCell ⟨gb221, 1, none⟩ (.slice Ao103 t218.length co103)) w.heap.size (fun k_ => some k_ ≠ (v197 : Value).ownBlock ∧ k_ ≠ gb214) (.slice Ao98 t215.length co98) t215) := ⟨by (with_reducible repeat (first | apply Kd.R_alloc | apply Kd.R_drewN | apply Kd.R_drew)); exact Kd.R_mono (Kd.R_far (p := ⟨gb221, 1, none⟩) (Kd.R_far (p := ⟨gb221, 0, none⟩) (Kd.R_types HO217.out BK221.out (by decide)) (fun _ hk => hk.2) (.slice Ao98 t215.length co98)) (fun _ hk => hk.2) (.slice Ao103 t218.length co103)) (fun _ hk => ⟨hk.1.1.2, hk.1.2⟩)⟩
    have n3_ : Aside0 (Kd.R Kd.bool 4 ((w97.setCell ⟨gb221, 0, none⟩ (.slice Ao98 t215.length co98)).setCell ⟨gb221, 1, none⟩ (.slice Ao103 t218.length co103)) w.heap.size (fun k_ => some k_ ≠ (v200 : Value).ownBlock) (.slice Ao103 t218.length co103) t218) := ⟨by (with_reducible repeat (first | apply Kd.R_alloc | apply Kd.R_drewN | apply Kd.R_drew)); exact Kd.R_mono (Kd.R_far (p := ⟨gb221, 1, none⟩) (Kd.R_far (p := ⟨gb221, 0, none⟩) (Kd.R_types HO220.out BK221.out (by decide)) (fun _ hk => hk.2) (.slice Ao98 t215.length co98)) (fun _ hk => hk.2) (.slice Ao103 t218.length co103)) (fun _ hk => hk.1.2)⟩
    have n4_ : Aside0 (((w97.setCell ⟨gb221, 0, none⟩ (.slice Ao98 t215.length co98)).setCell ⟨gb221, 1, none⟩ (.slice Ao103 t218.length co103)).heap[gb193]? = some (.cells #[.slice A0_0 l0_0.length c0_0, .slice A0_1 l0_1.length c0_1] 25 (0, 0))) := ⟨by (with_reducible repeat (first | refine blk_drewN ?_ _ | refine blk_drew ?_ | refine blk_alloc ?_ _)); refine blk_far ?_ NB193_221.out _; (with_reducible repeat (first | refine blk_drewN ?_ _ | refine blk_drew ?_ | refine blk_alloc ?_ _)); refine blk_far ?_ NB193_221.out _; (with_reducible repeat (first | refine blk_drewN ?_ _ | refine blk_drew ?_ | refine blk_alloc ?_ _)); exact BK193.out⟩
    have n5_ : Aside0 (((w97.setCell ⟨gb221, 0, none⟩ (.slice Ao98 t215.length co98)).setCell ⟨gb221, 1, none⟩ (.slice Ao103 t218.length co103)).heap[gb194]? = some (.cells #[.int .i64 a1_0, .bool a1_1, .int .i64 a1_2, .int .i64 a1_3, .int .i64 a1_4, .int .i64 a1_5] 29 (0, 0))) := ⟨by (with_reducible repeat (first | refine blk_drewN ?_ _ | refine blk_drew ?_ | refine blk_alloc ?_ _)); refine blk_far ?_ NB194_221.out _; (with_reducible repeat (first | refine blk_drewN ?_ _ | refine blk_drew ?_ | refine blk_alloc ?_ _)); refine blk_far ?_ NB194_221.out _; (with_reducible repeat (first | refine blk_drewN ?_ _ | refine blk_drew ?_ | refine blk_alloc ?_ _)); exact BK194.out⟩
    have n6_ : Aside0 (((w97.setCell ⟨gb221, 0, none⟩ (.slice Ao98 t215.length co98)).setCell ⟨gb221, 1, none⟩ (.slice Ao103 t218.length co103)).heap[gb214]? = some (.cells #[.int .i64 t208, .bool t209, .int .i64 t210, .int .i64 t211, .int .i64 t212, .int .i64 t213] 33 (0, 0))) := ⟨by (with_reducible repeat (first | refine blk_drewN ?_ _ | refine blk_drew ?_ | refine blk_alloc ?_ _)); refine blk_far ?_ NB214_221.out _; (with_reducible repeat (first | refine blk_drewN ?_ _ | refine blk_drew ?_ | refine blk_alloc ?_ _)); refine blk_far ?_ NB214_221.out _; (with_reducible repeat (first | refine blk_drewN ?_ _ | refine blk_drew ?_ | refine blk_alloc ?_ _)); exact BK214.out⟩
    have n7_ : Aside0 (((w97.setCell ⟨gb221, 0, none⟩ (.slice Ao98 t215.length co98)).setCell ⟨gb221, 1, none⟩ (.slice Ao103 t218.length co103)).heap[gb221]? = some (.cells #[.slice Ao98 t215.length co98, .slice Ao103 t218.length co103] 37 (0, 0))) := ⟨by (with_reducible repeat (first | refine blk_drewN ?_ _ | refine blk_drew ?_ | refine blk_alloc ?_ _)); refine blk_put (cs := #[.slice Ao98 t215.length co98, .slice none 0 0]) ?_ 1 _ rfl; (with_reducible repeat (first | refine blk_drewN ?_ _ | refine blk_drew ?_ | refine blk_alloc ?_ _)); refine blk_put (cs := #[.slice none 0 0, .slice none 0 0]) ?_ 0 _ rfl; (with_reducible repeat (first | refine blk_drewN ?_ _ | refine blk_drew ?_ | refine blk_alloc ?_ _)); exact BK221.out⟩
    have n8_ : Aside0 (Below w.heap.size w ((w97.setCell ⟨gb221, 0, none⟩ (.slice Ao98 t215.length co98)).setCell ⟨gb221, 1, none⟩ (.slice Ao103 t218.length co103))) := ⟨by repeat (first | (with_reducible first | exact HB.out | apply below_alloc | apply pw_below_drewN | apply below_drew1 | refine below_set ?_ GE193.out | refine below_set ?_ GE194.out | refine below_set ?_ GE214.out | refine below_set ?_ GE221.out) | exact HB.out)⟩
    (try clear HO198)
    (try clear HO201)
    (try clear HO217)
    (try clear HO220)
    (try clear BK193)
    (try clear BK194)
    (try clear BK214)
    (try clear BK221)
    (try clear HB)
    generalize ((w97.setCell ⟨gb221, 0, none⟩ (.slice Ao98 t215.length co98)).setCell ⟨gb221, 1, none⟩ (.slice Ao103 t218.length co103)) = w104 at n0_ n1_ n2_ n3_ n4_ n5_ n6_ n7_ n8_ ⊢
    have HO198 := n0_
    have HO201 := n1_
    have HO217 := n2_
    have HO220 := n3_
    have BK193 := n4_
    have BK194 := n5_
    have BK214 := n6_
    have BK221 := n7_
    have HB := n8_
    clear n0_ n1_ n2_ n3_ n4_ n5_ n6_ n7_ n8_
    have n0_ := Aside0.mk (Kd.R_drew HO198.out)
    have n1_ := Aside0.mk (Kd.R_drew HO201.out)
    have n2_ := Aside0.mk (Kd.R_drew HO217.out)
    have n3_ := Aside0.mk (Kd.R_drew HO220.out)
    have n4_ := Aside0.mk (blk_drew BK193.out)
    have n5_ := Aside0.mk (blk_drew BK194.out)
    have n6_ := Aside0.mk (blk_drew BK214.out)
    have n7_ := Aside0.mk (blk_drew BK221.out)
    have n8_ := Aside0.mk (below_drew1 HB.out)
    clear HO198 HO201 HO217 HO220 BK193 BK194 BK214 BK221 HB
    have HO198 := n0_
    have HO201 := n1_
    have HO217 := n2_
    have HO220 := n3_
    have BK193 := n4_
    have BK194 := n5_
    have BK214 := n6_
    have BK221 := n7_
    have HB := n8_
    clear n0_ n1_ n2_ n3_ n4_ n5_ n6_ n7_ n8_
    refine start_ (n := 6) (S := fun w' => w'.cell? ⟨gb221, 0, none⟩ = some (.slice Ao98 t215.length co98) ∧ w'.cell? ⟨gb221, 1, none⟩ = some (.slice Ao103 t218.length co103) ∧ w'.cell? ⟨gb194, 0, none⟩ = some (.int .i64 a1_0) ∧ w'.cell? ⟨gb194, 1, none⟩ = some (.bool a1_1) ∧ w'.cell? ⟨gb194, 2, none⟩ = some (.int .i64 a1_2) ∧ w'.cell? ⟨gb194, 3, none⟩ = some (.int .i64 a1_3) ∧ w'.cell? ⟨gb194, 4, none⟩ = some (.int .i64 a1_4) ∧ w'.cell? ⟨gb194, 5, none⟩ = some (.int .i64 a1_5)) (ds := []) #[false, false, false, false, false, false] (by kernel_rfl) rfl rfl (c2 BK221 (c6e BK194)) (fun hHeld => ?_)
    generalize w104.drew = w105 at HO198 HO201 HO217 HO220 BK193 BK194 BK214 BK221 HB hHeld ⊢
    refine take_ (i := 0) (N := some 21) (v := ?_) (a' := ?_) #[true, false, false, false, false, false] rfl rfl (by kernel_rfl) (fun _ _ _ h => h) (Or.inl ⟨by rfl, ?_⟩) hHeld ?_ ?_
    rotate_left
    ·rintro w' ⟨s0, s1, s2, s3, s4, s5, s6, s7⟩
     go_simp
     with_reducible rfl
    rotate_left
    ·simp only [Act.put, List.setIfInBounds_toArray, List.set_cons_zero, List.set_cons_succ, i64_w, i32_w]
     rfl
    refine take_ (i := 1) (N := some 22) (v := ?_) (a' := ?_) #[true, true, false, false, false, false] rfl rfl (by kernel_rfl) (fun _ _ _ h => h) (Or.inl ⟨by rfl, ?_⟩) hHeld ?_ ?_
    rotate_left
    ·rintro w' ⟨s0, s1, s2, s3, s4, s5, s6, s7⟩
     go_simp
     with_reducible rfl
    rotate_left
    ·simp only [Act.put, List.setIfInBounds_toArray, List.set_cons_zero, List.set_cons_succ, i64_w, i32_w]
     rfl
    refine join_ (σ := Nat) 1 #[true, true, true, true, true, false] (fun s_ => [(23, .agg #[.int .i64 t222, .bool t223, .int .i64 t224, .int .i64 t225, .int .i64 t226, .int .i64 t227]), (24, .agg #[.int .i64 t228, .bool t229, .int .i64 t230, .int .i64 t231, .int .i64 t232, .int .i64 t233]), (8, .pointer (some ⟨s_, 0, none⟩))]) (fun s_ w' => (w'.cell? ⟨gb221, 0, none⟩ = some (.slice Ao98 t215.length co98) ∧ w'.cell? ⟨gb221, 1, none⟩ = some (.slice Ao103 t218.length co103) ∧ w'.cell? ⟨gb194, 0, none⟩ = some (.int .i64 a1_0) ∧ w'.cell? ⟨gb194, 1, none⟩ = some (.bool a1_1) ∧ w'.cell? ⟨gb194, 2, none⟩ = some (.int .i64 a1_2) ∧ w'.cell? ⟨gb194, 3, none⟩ = some (.int .i64 a1_3) ∧ w'.cell? ⟨gb194, 4, none⟩ = some (.int .i64 a1_4) ∧ w'.cell? ⟨gb194, 5, none⟩ = some (.int .i64 a1_5)) ∧ (Kd.R k33 33 w' w.heap.size (fun k_ => some k_ ≠ (.slice Ao98 t215.length co98 : Value).ownBlock ∧ k_ ≠ gb214 ∧ k_ ≠ s_) v197 t196) ∧ (Kd.R Kd.bool 4 w' w.heap.size (fun k_ => some k_ ≠ (.slice Ao103 t218.length co103 : Value).ownBlock) v200 t199) ∧ (Kd.R k33 33 w' w.heap.size (fun k_ => some k_ ≠ (v197 : Value).ownBlock ∧ k_ ≠ gb214 ∧ k_ ≠ s_) (.slice Ao98 t215.length co98) t215) ∧ (Kd.R Kd.bool 4 w' w.heap.size (fun k_ => some k_ ≠ (v200 : Value).ownBlock) (.slice Ao103 t218.length co103) t218) ∧ (w'.heap[gb193]? = some (.cells #[.slice A0_0 l0_0.length c0_0, .slice A0_1 l0_1.length c0_1] 25 (0, 0))) ∧ (w'.heap[gb194]? = some (.cells #[.int .i64 a1_0, .bool a1_1, .int .i64 a1_2, .int .i64 a1_3, .int .i64 a1_4, .int .i64 a1_5] 29 (0, 0))) ∧ (w'.heap[gb214]? = some (.cells #[.int .i64 t208, .bool t209, .int .i64 t210, .int .i64 t211, .int .i64 t212, .int .i64 t213] 33 (0, 0))) ∧ (w'.heap[gb221]? = some (.cells #[.slice Ao98 t215.length co98, .slice Ao103 t218.length co103] 37 (0, 0))) ∧ (w'.heap[s_]? = some (.cells #[.int .i64 0, .bool false, .int .i64 0, .int .i64 0, .int .i64 0, .int .i64 0] 33 (0, 0))) ∧ (w.heap.size ≤ s_) ∧ (w.heap.size ≤ s_) ∧ (gb193 ≠ s_) ∧ (s_ ≠ gb193) ∧ (gb194 ≠ s_) ∧ (s_ ≠ gb194) ∧ (gb214 ≠ s_) ∧ (s_ ≠ gb214) ∧ (gb221 ≠ s_) ∧ (s_ ≠ gb221) ∧ (Below w.heap.size w w')) ?_ ?_
    rotate_left
    ·intro hCont
     refine two_ (i := 2) (j := 4) (Ni := some 23) (Nj := some 8) #[true, true, true, false, false, false] #[true, true, false, false, true, false] rfl rfl rfl rfl (by kernel_rfl) (by decide) (by decide) (fun K hK => ?_) (fun K hK => ?_)
     ·skip
      refine goesR Try.func15 (by kernel_rfl) rfl #[.agg #[.int .i64 a1_0, .bool a1_1, .int .i64 a1_2, .int .i64 a1_3, .int .i64 a1_4, .int .i64 a1_5]] (by rfl) rfl rfl ?_
      with_reducible refine (laws_toWord.calls a1_0 a1_1 a1_2 a1_3 a1_4 a1_5 t222 t223 t224 t225 t226 t227 _ A14.out).mono ?_
      rintro e w106 ⟨rfl, hb⟩
      refine ⟨_, rfl, ?_⟩
      have n0_ := nR HO198 hb
      have n1_ := nR HO201 hb
      have n2_ := nR HO217 hb
      have n3_ := nR HO220 hb
      have n4_ := nblk BK193 hb
      have n5_ := nblk BK194 hb
      have n6_ := nblk BK214 hb
      have n7_ := nblk BK221 hb
      have n8_ := nbs HB hb
      clear HO198 HO201 HO217 HO220 BK193 BK194 BK214 BK221 HB
      have HO198 := n0_
      have HO201 := n1_
      have HO217 := n2_
      have HO220 := n3_
      have BK193 := n4_
      have BK194 := n5_
      have BK214 := n6_
      have BK221 := n7_
      have HB := n8_
      clear n0_ n1_ n2_ n3_ n4_ n5_ n6_ n7_ n8_
      (try clear hb)
      refine hK.out _ _ (c2 BK221 (c6e BK194)) (fun hHeld => ?_)
      clear hK K
      refine norm_ (a' := ?_) ?_ ?_
      rotate_left
      ·show Act.put _ (some 23) _ = _
       simp only [Act.put, List.setIfInBounds_toArray, List.set_cons_zero, List.set_cons_succ, i64_w, i32_w]
       rfl
      refine two_ (i := 3) (j := 4) (Ni := some 24) (Nj := some 8) #[true, true, true, true, false, false] #[true, true, true, false, true, false] rfl rfl rfl rfl (by kernel_rfl) (by decide) (by decide) (fun K hK => ?_) (fun K hK => ?_)
      ·skip
       refine goesR Try.func16 (by kernel_rfl) rfl #[.agg #[.slice Ao98 t215.length co98, .slice Ao103 t218.length co103], .agg #[.int .i64 t222, .bool t223, .int .i64 t224, .int .i64 t225, .int .i64 t226, .int .i64 t227]] (by rfl) rfl rfl ?_
       with_reducible refine (impl_Filter.calls _ _ t215 _ _ t218 t222 t223 t224 t225 t226 t227 t228 t229 t230 t231 t232 t233 _ ?side1 ?side2 ?side3 ?side4 A15.out).mono ?_
       (case side1 => repeat (first | exact (Kd.R_reads' HO217.out).2.2 | (with_reducible refine Kd.C_alloc ?_ _) | (with_reducible refine Kd.C_drewN ?_ _) | (with_reducible refine Kd.C_drew ?_)))
       (case side2 => exact (Kd.R_reads' HO217.out).2.1)
       (case side3 => repeat (first | exact (Kd.R_reads' HO220.out).2.2 | (with_reducible refine Kd.C_alloc ?_ _) | (with_reducible refine Kd.C_drewN ?_ _) | (with_reducible refine Kd.C_drew ?_)))
       (case side4 => exact (Kd.R_reads' HO220.out).2.1)
       rintro e w107 ⟨rfl, hb⟩
       refine ⟨_, rfl, ?_⟩
       have n0_ := nR HO198 hb
       have n1_ := nR HO201 hb
       have n2_ := nR HO217 hb
       have n3_ := nR HO220 hb
       have n4_ := nblk BK193 hb
       have n5_ := nblk BK194 hb
       have n6_ := nblk BK214 hb
       have n7_ := nblk BK221 hb
       have n8_ := nbs HB hb
       clear HO198 HO201 HO217 HO220 BK193 BK194 BK214 BK221 HB
       have HO198 := n0_
       have HO201 := n1_
       have HO217 := n2_
       have HO220 := n3_
       have BK193 := n4_
       have BK194 := n5_
       have BK214 := n6_
       have BK221 := n7_
       have HB := n8_
       clear n0_ n1_ n2_ n3_ n4_ n5_ n6_ n7_ n8_
       (try clear hb)
       refine hK.out _ _ (c2 BK221 (c6e BK194)) (fun hHeld => ?_)
       clear hK K
       refine norm_ (a' := ?_) ?_ ?_
       rotate_left
       ·show Act.put _ (some 24) _ = _
        simp only [Act.put, List.setIfInBounds_toArray, List.set_cons_zero, List.set_cons_succ, i64_w, i32_w]
        rfl
       refine one_ (i := 4) (N := some 8) #[true, true, true, true, true, false] rfl rfl (by kernel_rfl) (by decide) (fun K hK => ?_)
       refine box_step ?hg (N := 8) ?hd (cs := #[.int .i64 0, .bool false, .int .i64 0, .int .i64 0, .int .i64 0, .int .i64 0]) (t := 33) ?hr ?_; (case hd => rfl); (case hg => rfl); (case hr => first | (go_simp; done) | (go_simp; rfl))
       intro gb234 hg w108 hbox hb
       have n0_ := Aside0.mk (Kd.R_below (Kd.R_elderB (nRo HO198) gb234 (Nat.le_of_eq hg.symm)) hb)
       have n1_ := nR HO201 hb
       have n2_ := Aside0.mk (Kd.R_below (Kd.R_elderB (nRo HO217) gb234 (Nat.le_of_eq hg.symm)) hb)
       have n3_ := nR HO220 hb
       have n4_ := nblk BK193 hb
       have n5_ := nblk BK194 hb
       have n6_ := nblk BK214 hb
       have n7_ := nblk BK221 hb
       have n8_ := nbs HB hb
       have n9_ := Aside0.mk (hbox)
       have n10_ := nge HB hg
       have n11_ := nge HB hg
       have n12_ := nlt BK193 hg
       have n13_ := ngt BK193 hg
       have n14_ := nlt BK194 hg
       have n15_ := ngt BK194 hg
       have n16_ := nlt BK214 hg
       have n17_ := ngt BK214 hg
       have n18_ := nlt BK221 hg
       have n19_ := ngt BK221 hg
       clear HO198 HO201 HO217 HO220 BK193 BK194 BK214 BK221 HB
       have HO198 := n0_
       have HO201 := n1_
       have HO217 := n2_
       have HO220 := n3_
       have BK193 := n4_
       have BK194 := n5_
       have BK214 := n6_
       have BK221 := n7_
       have HB := n8_
       have BK234 := n9_
       have GW234 := n10_
       have GE234 := n11_
       have NB193_234 := n12_
       have NB234_193 := n13_
       have NB194_234 := n14_
       have NB234_194 := n15_
       have NB214_234 := n16_
       have NB234_214 := n17_
       have NB221_234 := n18_
       have NB234_221 := n19_
       clear n0_ n1_ n2_ n3_ n4_ n5_ n6_ n7_ n8_ n9_ n10_ n11_ n12_ n13_ n14_ n15_ n16_ n17_ n18_ n19_
       clear hb hbox hg
       refine hK.out _ _ (c2 BK221 (c6e BK194)) (fun hHeld => ?_)
       clear hK K
       refine norm_ (a' := ?_) ?_ ?_
       rotate_left
       ·show Act.put _ (some 8) _ = _
        simp only [Act.put, List.setIfInBounds_toArray, List.set_cons_zero, List.set_cons_succ, i64_w, i32_w]
        rfl
       exact norm_ (by simp only [putAll, Act.put, List.setIfInBounds_toArray, List.set_cons_zero, List.set_cons_succ]) (hCont (gb234) _ ⟨hHeld, (by (with_reducible repeat (first | apply Kd.R_alloc | apply Kd.R_drewN | apply Kd.R_drew)); exact Kd.R_mono HO198.out (fun _ hk => ⟨hk.1.1, ⟨hk.1.2, hk.2⟩⟩)), (nRo HO201), (by (with_reducible repeat (first | apply Kd.R_alloc | apply Kd.R_drewN | apply Kd.R_drew)); exact Kd.R_mono HO217.out (fun _ hk => ⟨hk.1.1, ⟨hk.1.2, hk.2⟩⟩)), (nRo HO220), (nb BK193), (nb BK194), (nb BK214), (nb BK221), (nb BK234), GW234.out, GE234.out, NB193_234.out, NB234_193.out, NB194_234.out, NB234_194.out, NB214_234.out, NB234_214.out, NB221_234.out, NB234_221.out, (by repeat (first | (with_reducible first | exact HB.out | apply below_alloc | apply pw_below_drewN | apply below_drew1 | refine below_set ?_ GE193.out | refine below_set ?_ GE194.out | refine below_set ?_ GE214.out | refine below_set ?_ GE221.out | refine below_set ?_ GE234.out) | exact HB.out))⟩)
      ·skip
       refine box_step ?hg (N := 8) ?hd (cs := #[.int .i64 0, .bool false, .int .i64 0, .int .i64 0, .int .i64 0, .int .i64 0]) (t := 33) ?hr ?_; (case hd => rfl); (case hg => rfl); (case hr => first | (go_simp; done) | (go_simp; rfl))
       intro gb234 hg w107 hbox hb
       have n0_ := Aside0.mk (Kd.R_below (Kd.R_elderB (nRo HO198) gb234 (Nat.le_of_eq hg.symm)) hb)
       have n1_ := nR HO201 hb
       have n2_ := Aside0.mk (Kd.R_below (Kd.R_elderB (nRo HO217) gb234 (Nat.le_of_eq hg.symm)) hb)
       have n3_ := nR HO220 hb
       have n4_ := nblk BK193 hb
       have n5_ := nblk BK194 hb
       have n6_ := nblk BK214 hb
       have n7_ := nblk BK221 hb
       have n8_ := nbs HB hb
       have n9_ := Aside0.mk (hbox)
       have n10_ := nge HB hg
       have n11_ := nge HB hg
       have n12_ := nlt BK193 hg
       have n13_ := ngt BK193 hg
       have n14_ := nlt BK194 hg
       have n15_ := ngt BK194 hg
       have n16_ := nlt BK214 hg
       have n17_ := ngt BK214 hg
       have n18_ := nlt BK221 hg
       have n19_ := ngt BK221 hg
       clear HO198 HO201 HO217 HO220 BK193 BK194 BK214 BK221 HB
       have HO198 := n0_
       have HO201 := n1_
       have HO217 := n2_
       have HO220 := n3_
       have BK193 := n4_
       have BK194 := n5_
       have BK214 := n6_
       have BK221 := n7_
       have HB := n8_
       have BK234 := n9_
       have GW234 := n10_
       have GE234 := n11_
       have NB193_234 := n12_
       have NB234_193 := n13_
       have NB194_234 := n14_
       have NB234_194 := n15_
       have NB214_234 := n16_
       have NB234_214 := n17_
       have NB221_234 := n18_
       have NB234_221 := n19_
       clear n0_ n1_ n2_ n3_ n4_ n5_ n6_ n7_ n8_ n9_ n10_ n11_ n12_ n13_ n14_ n15_ n16_ n17_ n18_ n19_
       clear hb hbox hg
       refine hK.out _ _ (c2 BK221 (c6e BK194)) (fun hHeld => ?_)
       clear hK K
       refine norm_ (a' := ?_) ?_ ?_
       rotate_left
       ·show Act.put _ (some 8) _ = _
        simp only [Act.put, List.setIfInBounds_toArray, List.set_cons_zero, List.set_cons_succ, i64_w, i32_w]
        rfl
       refine one_ (i := 3) (N := some 24) #[true, true, true, true, true, false] rfl rfl (by kernel_rfl) (by decide) (fun K hK => ?_)
       refine goesR Try.func16 (by kernel_rfl) rfl #[.agg #[.slice Ao98 t215.length co98, .slice Ao103 t218.length co103], .agg #[.int .i64 t222, .bool t223, .int .i64 t224, .int .i64 t225, .int .i64 t226, .int .i64 t227]] (by rfl) rfl rfl ?_
       with_reducible refine (impl_Filter.calls _ _ t215 _ _ t218 t222 t223 t224 t225 t226 t227 t228 t229 t230 t231 t232 t233 _ ?side1 ?side2 ?side3 ?side4 A15.out).mono ?_
       (case side1 => repeat (first | exact (Kd.R_reads' HO217.out).2.2 | (with_reducible refine Kd.C_alloc ?_ _) | (with_reducible refine Kd.C_drewN ?_ _) | (with_reducible refine Kd.C_drew ?_)))
       (case side2 => exact (Kd.R_reads' HO217.out).2.1)
       (case side3 => repeat (first | exact (Kd.R_reads' HO220.out).2.2 | (with_reducible refine Kd.C_alloc ?_ _) | (with_reducible refine Kd.C_drewN ?_ _) | (with_reducible refine Kd.C_drew ?_)))
       (case side4 => exact (Kd.R_reads' HO220.out).2.1)
       rintro e w108 ⟨rfl, hb⟩
       refine ⟨_, rfl, ?_⟩
       have n0_ := nR HO198 hb
       have n1_ := nR HO201 hb
       have n2_ := nR HO217 hb
       have n3_ := nR HO220 hb
       have n4_ := nblk BK193 hb
       have n5_ := nblk BK194 hb
       have n6_ := nblk BK214 hb
       have n7_ := nblk BK221 hb
       have n8_ := nblk BK234 hb
       have n9_ := nbs HB hb
       clear HO198 HO201 HO217 HO220 BK193 BK194 BK214 BK221 BK234 HB
       have HO198 := n0_
       have HO201 := n1_
       have HO217 := n2_
       have HO220 := n3_
       have BK193 := n4_
       have BK194 := n5_
       have BK214 := n6_
       have BK221 := n7_
       have BK234 := n8_
       have HB := n9_
       clear n0_ n1_ n2_ n3_ n4_ n5_ n6_ n7_ n8_ n9_
       (try clear hb)
       refine hK.out _ _ (c2 BK221 (c6e BK194)) (fun hHeld => ?_)
       clear hK K
       refine norm_ (a' := ?_) ?_ ?_
       rotate_left
       ·show Act.put _ (some 24) _ = _
        simp only [Act.put, List.setIfInBounds_toArray, List.set_cons_zero, List.set_cons_succ, i64_w, i32_w]
        rfl
       exact norm_ (by simp only [putAll, Act.put, List.setIfInBounds_toArray, List.set_cons_zero, List.set_cons_succ]) (hCont (gb234) _ ⟨hHeld, (by (with_reducible repeat (first | apply Kd.R_alloc | apply Kd.R_drewN | apply Kd.R_drew)); exact Kd.R_mono HO198.out (fun _ hk => ⟨hk.1.1, ⟨hk.1.2, hk.2⟩⟩)), (nRo HO201), (by (with_reducible repeat (first | apply Kd.R_alloc | apply Kd.R_drewN | apply Kd.R_drew)); exact Kd.R_mono HO217.out (fun _ hk => ⟨hk.1.1, ⟨hk.1.2, hk.2⟩⟩)), (nRo HO220), (nb BK193), (nb BK194), (nb BK214), (nb BK221), (nb BK234), GW234.out, GE234.out, NB193_234.out, NB234_193.out, NB194_234.out, NB234_194.out, NB214_234.out, NB234_214.out, NB221_234.out, NB234_221.out, (by repeat (first | (with_reducible first | exact HB.out | apply below_alloc | apply pw_below_drewN | apply below_drew1 | refine below_set ?_ GE193.out | refine below_set ?_ GE194.out | refine below_set ?_ GE214.out | refine below_set ?_ GE221.out | refine below_set ?_ GE234.out) | exact HB.out))⟩)
     ·skip
      refine box_step ?hg (N := 8) ?hd (cs := #[.int .i64 0, .bool false, .int .i64 0, .int .i64 0, .int .i64 0, .int .i64 0]) (t := 33) ?hr ?_; (case hd => rfl); (case hg => rfl); (case hr => first | (go_simp; done) | (go_simp; rfl))
      intro gb234 hg w106 hbox hb
      have n0_ := Aside0.mk (Kd.R_below (Kd.R_elderB (nRo HO198) gb234 (Nat.le_of_eq hg.symm)) hb)
      have n1_ := nR HO201 hb
      have n2_ := Aside0.mk (Kd.R_below (Kd.R_elderB (nRo HO217) gb234 (Nat.le_of_eq hg.symm)) hb)
      have n3_ := nR HO220 hb
      have n4_ := nblk BK193 hb
      have n5_ := nblk BK194 hb
      have n6_ := nblk BK214 hb
      have n7_ := nblk BK221 hb
      have n8_ := nbs HB hb
      have n9_ := Aside0.mk (hbox)
      have n10_ := nge HB hg
      have n11_ := nge HB hg
      have n12_ := nlt BK193 hg
      have n13_ := ngt BK193 hg
      have n14_ := nlt BK194 hg
      have n15_ := ngt BK194 hg
      have n16_ := nlt BK214 hg
      have n17_ := ngt BK214 hg
      have n18_ := nlt BK221 hg
      have n19_ := ngt BK221 hg
      clear HO198 HO201 HO217 HO220 BK193 BK194 BK214 BK221 HB
      have HO198 := n0_
      have HO201 := n1_
      have HO217 := n2_
      have HO220 := n3_
      have BK193 := n4_
      have BK194 := n5_
      have BK214 := n6_
      have BK221 := n7_
      have HB := n8_
      have BK234 := n9_
      have GW234 := n10_
      have GE234 := n11_
      have NB193_234 := n12_
      have NB234_193 := n13_
      have NB194_234 := n14_
      have NB234_194 := n15_
      have NB214_234 := n16_
      have NB234_214 := n17_
      have NB221_234 := n18_
      have NB234_221 := n19_
      clear n0_ n1_ n2_ n3_ n4_ n5_ n6_ n7_ n8_ n9_ n10_ n11_ n12_ n13_ n14_ n15_ n16_ n17_ n18_ n19_
      clear hb hbox hg
      refine hK.out _ _ (c2 BK221 (c6e BK194)) (fun hHeld => ?_)
      clear hK K
      refine norm_ (a' := ?_) ?_ ?_
      rotate_left
      ·show Act.put _ (some 8) _ = _
       simp only [Act.put, List.setIfInBounds_toArray, List.set_cons_zero, List.set_cons_succ, i64_w, i32_w]
       rfl
      refine one_ (i := 2) (N := some 23) #[true, true, true, false, true, false] rfl rfl (by kernel_rfl) (by decide) (fun K hK => ?_)
      refine goesR Try.func15 (by kernel_rfl) rfl #[.agg #[.int .i64 a1_0, .bool a1_1, .int .i64 a1_2, .int .i64 a1_3, .int .i64 a1_4, .int .i64 a1_5]] (by rfl) rfl rfl ?_
      with_reducible refine (laws_toWord.calls a1_0 a1_1 a1_2 a1_3 a1_4 a1_5 t222 t223 t224 t225 t226 t227 _ A14.out).mono ?_
      rintro e w107 ⟨rfl, hb⟩
      refine ⟨_, rfl, ?_⟩
      have n0_ := nR HO198 hb
      have n1_ := nR HO201 hb
      have n2_ := nR HO217 hb
      have n3_ := nR HO220 hb
      have n4_ := nblk BK193 hb
      have n5_ := nblk BK194 hb
      have n6_ := nblk BK214 hb
      have n7_ := nblk BK221 hb
      have n8_ := nblk BK234 hb
      have n9_ := nbs HB hb
      clear HO198 HO201 HO217 HO220 BK193 BK194 BK214 BK221 BK234 HB
      have HO198 := n0_
      have HO201 := n1_
      have HO217 := n2_
      have HO220 := n3_
      have BK193 := n4_
      have BK194 := n5_
      have BK214 := n6_
      have BK221 := n7_
      have BK234 := n8_
      have HB := n9_
      clear n0_ n1_ n2_ n3_ n4_ n5_ n6_ n7_ n8_ n9_
      (try clear hb)
      refine hK.out _ _ (c2 BK221 (c6e BK194)) (fun hHeld => ?_)
      clear hK K
      refine norm_ (a' := ?_) ?_ ?_
      rotate_left
      ·show Act.put _ (some 23) _ = _
       simp only [Act.put, List.setIfInBounds_toArray, List.set_cons_zero, List.set_cons_succ, i64_w, i32_w]
       rfl
      refine one_ (i := 3) (N := some 24) #[true, true, true, true, true, false] rfl rfl (by kernel_rfl) (by decide) (fun K hK => ?_)
      refine goesR Try.func16 (by kernel_rfl) rfl #[.agg #[.slice Ao98 t215.length co98, .slice Ao103 t218.length co103], .agg #[.int .i64 t222, .bool t223, .int .i64 t224, .int .i64 t225, .int .i64 t226, .int .i64 t227]] (by rfl) rfl rfl ?_
      with_reducible refine (impl_Filter.calls _ _ t215 _ _ t218 t222 t223 t224 t225 t226 t227 t228 t229 t230 t231 t232 t233 _ ?side1 ?side2 ?side3 ?side4 A15.out).mono ?_
      (case side1 => repeat (first | exact (Kd.R_reads' HO217.out).2.2 | (with_reducible refine Kd.C_alloc ?_ _) | (with_reducible refine Kd.C_drewN ?_ _) | (with_reducible refine Kd.C_drew ?_)))
      (case side2 => exact (Kd.R_reads' HO217.out).2.1)
      (case side3 => repeat (first | exact (Kd.R_reads' HO220.out).2.2 | (with_reducible refine Kd.C_alloc ?_ _) | (with_reducible refine Kd.C_drewN ?_ _) | (with_reducible refine Kd.C_drew ?_)))
      (case side4 => exact (Kd.R_reads' HO220.out).2.1)
      rintro e w108 ⟨rfl, hb⟩
      refine ⟨_, rfl, ?_⟩
      have n0_ := nR HO198 hb
      have n1_ := nR HO201 hb
      have n2_ := nR HO217 hb
      have n3_ := nR HO220 hb
      have n4_ := nblk BK193 hb
      have n5_ := nblk BK194 hb
      have n6_ := nblk BK214 hb
      have n7_ := nblk BK221 hb
      have n8_ := nblk BK234 hb
      have n9_ := nbs HB hb
      clear HO198 HO201 HO217 HO220 BK193 BK194 BK214 BK221 BK234 HB
      have HO198 := n0_
      have HO201 := n1_
      have HO217 := n2_
      have HO220 := n3_
      have BK193 := n4_
      have BK194 := n5_
      have BK214 := n6_
      have BK221 := n7_
      have BK234 := n8_
      have HB := n9_
      clear n0_ n1_ n2_ n3_ n4_ n5_ n6_ n7_ n8_ n9_
      (try clear hb)
      refine hK.out _ _ (c2 BK221 (c6e BK194)) (fun hHeld => ?_)
      clear hK K
      refine norm_ (a' := ?_) ?_ ?_
      rotate_left
      ·show Act.put _ (some 24) _ = _
       simp only [Act.put, List.setIfInBounds_toArray, List.set_cons_zero, List.set_cons_succ, i64_w, i32_w]
       rfl
      exact norm_ (by simp only [putAll, Act.put, List.setIfInBounds_toArray, List.set_cons_zero, List.set_cons_succ]) (hCont (gb234) _ ⟨hHeld, (by (with_reducible repeat (first | apply Kd.R_alloc | apply Kd.R_drewN | apply Kd.R_drew)); exact Kd.R_mono HO198.out (fun _ hk => ⟨hk.1.1, ⟨hk.1.2, hk.2⟩⟩)), (nRo HO201), (by (with_reducible repeat (first | apply Kd.R_alloc | apply Kd.R_drewN | apply Kd.R_drew)); exact Kd.R_mono HO217.out (fun _ hk => ⟨hk.1.1, ⟨hk.1.2, hk.2⟩⟩)), (nRo HO220), (nb BK193), (nb BK194), (nb BK214), (nb BK221), (nb BK234), GW234.out, GE234.out, NB193_234.out, NB234_193.out, NB194_234.out, NB234_194.out, NB214_234.out, NB234_214.out, NB221_234.out, NB234_221.out, (by repeat (first | (with_reducible first | exact HB.out | apply below_alloc | apply pw_below_drewN | apply below_drew1 | refine below_set ?_ GE193.out | refine below_set ?_ GE194.out | refine below_set ?_ GE214.out | refine below_set ?_ GE221.out | refine below_set ?_ GE234.out) | exact HB.out))⟩)
    rintro gb234 w109 ⟨hS_, h0_, h1_, h2_, h3_, h4_, h5_, h6_, h7_, h8_, h9_, h10_, h11_, h12_, h13_, h14_, h15_, h16_, h17_, h18_, h19_⟩
    have n0_ : Aside0 (Kd.R k33 33 w109 w.heap.size (fun k_ => some k_ ≠ (.slice Ao98 t215.length co98 : Value).ownBlock ∧ k_ ≠ gb214 ∧ k_ ≠ gb234) v197 t196) := ⟨h0_⟩
    have n1_ : Aside0 (Kd.R Kd.bool 4 w109 w.heap.size (fun k_ => some k_ ≠ (.slice Ao103 t218.length co103 : Value).ownBlock) v200 t199) := ⟨h1_⟩
    have n2_ : Aside0 (Kd.R k33 33 w109 w.heap.size (fun k_ => some k_ ≠ (v197 : Value).ownBlock ∧ k_ ≠ gb214 ∧ k_ ≠ gb234) (.slice Ao98 t215.length co98) t215) := ⟨h2_⟩
    have n3_ : Aside0 (Kd.R Kd.bool 4 w109 w.heap.size (fun k_ => some k_ ≠ (v200 : Value).ownBlock) (.slice Ao103 t218.length co103) t218) := ⟨h3_⟩
    have n4_ : Aside0 (w109.heap[gb193]? = some (.cells #[.slice A0_0 l0_0.length c0_0, .slice A0_1 l0_1.length c0_1] 25 (0, 0))) := ⟨h4_⟩
    have n5_ : Aside0 (w109.heap[gb194]? = some (.cells #[.int .i64 a1_0, .bool a1_1, .int .i64 a1_2, .int .i64 a1_3, .int .i64 a1_4, .int .i64 a1_5] 29 (0, 0))) := ⟨h5_⟩
    have n6_ : Aside0 (w109.heap[gb214]? = some (.cells #[.int .i64 t208, .bool t209, .int .i64 t210, .int .i64 t211, .int .i64 t212, .int .i64 t213] 33 (0, 0))) := ⟨h6_⟩
    have n7_ : Aside0 (w109.heap[gb221]? = some (.cells #[.slice Ao98 t215.length co98, .slice Ao103 t218.length co103] 37 (0, 0))) := ⟨h7_⟩
    have n8_ : Aside0 (w109.heap[gb234]? = some (.cells #[.int .i64 0, .bool false, .int .i64 0, .int .i64 0, .int .i64 0, .int .i64 0] 33 (0, 0))) := ⟨h8_⟩
    have n9_ : Aside0 (w.heap.size ≤ gb234) := ⟨h9_⟩
    have n10_ : Aside0 (w.heap.size ≤ gb234) := ⟨h10_⟩
    have n11_ : Aside0 (gb193 ≠ gb234) := ⟨h11_⟩
    have n12_ : Aside0 (gb234 ≠ gb193) := ⟨h12_⟩
    have n13_ : Aside0 (gb194 ≠ gb234) := ⟨h13_⟩
    have n14_ : Aside0 (gb234 ≠ gb194) := ⟨h14_⟩
    have n15_ : Aside0 (gb214 ≠ gb234) := ⟨h15_⟩
    have n16_ : Aside0 (gb234 ≠ gb214) := ⟨h16_⟩
    have n17_ : Aside0 (gb221 ≠ gb234) := ⟨h17_⟩
    have n18_ : Aside0 (gb234 ≠ gb221) := ⟨h18_⟩
    have n19_ : Aside0 (Below w.heap.size w w109) := ⟨h19_⟩
    clear HO198 HO201 HO217 HO220 BK193 BK194 BK214 BK221 HB
    clear h0_ h1_ h2_ h3_ h4_ h5_ h6_ h7_ h8_ h9_ h10_ h11_ h12_ h13_ h14_ h15_ h16_ h17_ h18_ h19_
    have HO198 := n0_
    have HO201 := n1_
    have HO217 := n2_
    have HO220 := n3_
    have BK193 := n4_
    have BK194 := n5_
    have BK214 := n6_
    have BK221 := n7_
    have BK234 := n8_
    have GW234 := n9_
    have GE234 := n10_
    have NB193_234 := n11_
    have NB234_193 := n12_
    have NB194_234 := n13_
    have NB234_194 := n14_
    have NB214_234 := n15_
    have NB234_214 := n16_
    have NB221_234 := n17_
    have NB234_221 := n18_
    have HB := n19_
    clear n0_ n1_ n2_ n3_ n4_ n5_ n6_ n7_ n8_ n9_ n10_ n11_ n12_ n13_ n14_ n15_ n16_ n17_ n18_ n19_
    have hHeld : w109.cell? ⟨gb221, 0, none⟩ = some (.slice Ao98 t215.length co98) ∧ w109.cell? ⟨gb221, 1, none⟩ = some (.slice Ao103 t218.length co103) ∧ w109.cell? ⟨gb194, 0, none⟩ = some (.int .i64 a1_0) ∧ w109.cell? ⟨gb194, 1, none⟩ = some (.bool a1_1) ∧ w109.cell? ⟨gb194, 2, none⟩ = some (.int .i64 a1_2) ∧ w109.cell? ⟨gb194, 3, none⟩ = some (.int .i64 a1_3) ∧ w109.cell? ⟨gb194, 4, none⟩ = some (.int .i64 a1_4) ∧ w109.cell? ⟨gb194, 5, none⟩ = some (.int .i64 a1_5) := hS_
    refine norm_ (a' := ?_) ?_ ?_
    rotate_left
    ·simp only [putAll, Act.put, List.setIfInBounds_toArray, List.set_cons_zero, List.set_cons_succ]
     rfl
    refine one_ (i := 5) (N := none) #[true, true, true, true, true, true] rfl rfl (by kernel_rfl) (by decide) (fun K hK => ?_)
    have hs110 : w109.cell? ⟨gb234, 0, none⟩ = some (.int .i64 0) := (blk_cell BK234.out 0).trans rfl
    have hfs110 := blk_frozen BK234.out 0
    have hns110_0 := NB193_234.out
    have hns110_1 := NB194_234.out
    have hns110_2 := NB214_234.out
    have hns110_3 := NB221_234.out
    have hms110_0 := NB234_193.out
    have hms110_1 := NB234_194.out
    have hms110_2 := NB234_214.out
    have hms110_3 := NB234_221.out
    have hs111 : w109.cell? ⟨gb234, 1, none⟩ = some (.bool false) := (blk_cell BK234.out 1).trans rfl
    have hfs111 := blk_frozen BK234.out 1
    have hns111_0 := NB193_234.out
    have hns111_1 := NB194_234.out
    have hns111_2 := NB214_234.out
    have hns111_3 := NB221_234.out
    have hms111_0 := NB234_193.out
    have hms111_1 := NB234_194.out
    have hms111_2 := NB234_214.out
    have hms111_3 := NB234_221.out
    have hs112 : w109.cell? ⟨gb234, 2, none⟩ = some (.int .i64 0) := (blk_cell BK234.out 2).trans rfl
    have hfs112 := blk_frozen BK234.out 2
    have hns112_0 := NB193_234.out
    have hns112_1 := NB194_234.out
    have hns112_2 := NB214_234.out
    have hns112_3 := NB221_234.out
    have hms112_0 := NB234_193.out
    have hms112_1 := NB234_194.out
    have hms112_2 := NB234_214.out
    have hms112_3 := NB234_221.out
    have hs113 : w109.cell? ⟨gb234, 3, none⟩ = some (.int .i64 0) := (blk_cell BK234.out 3).trans rfl
    have hfs113 := blk_frozen BK234.out 3
    have hns113_0 := NB193_234.out
    have hns113_1 := NB194_234.out
    have hns113_2 := NB214_234.out
    have hns113_3 := NB221_234.out
    have hms113_0 := NB234_193.out
    have hms113_1 := NB234_194.out
    have hms113_2 := NB234_214.out
    have hms113_3 := NB234_221.out
    have hs114 : w109.cell? ⟨gb234, 4, none⟩ = some (.int .i64 0) := (blk_cell BK234.out 4).trans rfl
    have hfs114 := blk_frozen BK234.out 4
    have hns114_0 := NB193_234.out
    have hns114_1 := NB194_234.out
    have hns114_2 := NB214_234.out
    have hns114_3 := NB221_234.out
    have hms114_0 := NB234_193.out
    have hms114_1 := NB234_194.out
    have hms114_2 := NB234_214.out
    have hms114_3 := NB234_221.out
    have hs115 : w109.cell? ⟨gb234, 5, none⟩ = some (.int .i64 0) := (blk_cell BK234.out 5).trans rfl
    have hfs115 := blk_frozen BK234.out 5
    have hns115_0 := NB193_234.out
    have hns115_1 := NB194_234.out
    have hns115_2 := NB214_234.out
    have hns115_3 := NB221_234.out
    have hms115_0 := NB234_193.out
    have hms115_1 := NB234_194.out
    have hms115_2 := NB234_214.out
    have hms115_3 := NB234_221.out
    refine skip_ (w1 := ?_) (by rfl) rfl ?_ ?_
    rotate_left
    ·go_simp
     rfl
    refine hK.out _ _ ⟨(g6 NB221_234.out hHeld.1), (g6 NB221_234.out hHeld.2.1), (g6 NB194_234.out hHeld.2.2.1), (g6 NB194_234.out hHeld.2.2.2.1), (g6 NB194_234.out hHeld.2.2.2.2.1), (g6 NB194_234.out hHeld.2.2.2.2.2.1), (g6 NB194_234.out hHeld.2.2.2.2.2.2.1), (g6 NB194_234.out hHeld.2.2.2.2.2.2.2)⟩ (fun hHeld => ?_)
    clear hK K
    refine done_ (by kernel_rfl) ?_
    have hnb116 := NB234_193.out
    have hnc116 := NB193_234.out
    have hnb117 := NB234_194.out
    have hnc117 := NB194_234.out
    have hnb118 := NB234_214.out
    have hnc118 := NB214_234.out
    have hnb119 := NB234_221.out
    have hnc119 := NB221_234.out
    have hcz120_0 : w109.cell? ⟨gb234, 0, none⟩ = some (.int .i64 0) := (blk_cell BK234.out 0).trans rfl
    have hcz120_1 : w109.cell? ⟨gb234, 1, none⟩ = some (.bool false) := (blk_cell BK234.out 1).trans rfl
    have hcz120_2 : w109.cell? ⟨gb234, 2, none⟩ = some (.int .i64 0) := (blk_cell BK234.out 2).trans rfl
    have hcz120_3 : w109.cell? ⟨gb234, 3, none⟩ = some (.int .i64 0) := (blk_cell BK234.out 3).trans rfl
    have hcz120_4 : w109.cell? ⟨gb234, 4, none⟩ = some (.int .i64 0) := (blk_cell BK234.out 4).trans rfl
    have hcz120_5 : w109.cell? ⟨gb234, 5, none⟩ = some (.int .i64 0) := (blk_cell BK234.out 5).trans rfl
    have hfz120_0 := blk_frozen BK234.out 0
    have hfz120_1 := blk_frozen BK234.out 1
    have hfz120_2 := blk_frozen BK234.out 2
    have hfz120_3 := blk_frozen BK234.out 3
    have hfz120_4 := blk_frozen BK234.out 4
    have hfz120_5 := blk_frozen BK234.out 5
    have hnb121 := NB214_194.out
    have hnc121 := NB194_214.out
    have hcz122_0 : w109.cell? ⟨gb214, 0, none⟩ = some (.int .i64 t208) := (blk_cell BK214.out 0).trans rfl
    have hcz122_1 : w109.cell? ⟨gb214, 1, none⟩ = some (.bool t209) := (blk_cell BK214.out 1).trans rfl
    have hcz122_2 : w109.cell? ⟨gb214, 2, none⟩ = some (.int .i64 t210) := (blk_cell BK214.out 2).trans rfl
    have hcz122_3 : w109.cell? ⟨gb214, 3, none⟩ = some (.int .i64 t211) := (blk_cell BK214.out 3).trans rfl
    have hcz122_4 : w109.cell? ⟨gb214, 4, none⟩ = some (.int .i64 t212) := (blk_cell BK214.out 4).trans rfl
    have hcz122_5 : w109.cell? ⟨gb214, 5, none⟩ = some (.int .i64 t213) := (blk_cell BK214.out 5).trans rfl
    have hfz122_0 := blk_frozen BK214.out 0
    have hfz122_1 := blk_frozen BK214.out 1
    have hfz122_2 := blk_frozen BK214.out 2
    have hfz122_3 := blk_frozen BK214.out 3
    have hfz122_4 := blk_frozen BK214.out 4
    have hfz122_5 := blk_frozen BK214.out 5
    try go_wp2_with (first | ((with_reducible refine gate_callee (f := 17) rfl ?_); refine goesM (some 27) rfl rfl Try.func17 (by kernel_rfl) rfl #[.agg #[.int .i64 t228, .bool t229, .int .i64 t230, .int .i64 t231, .int .i64 t232, .int .i64 t233], .agg #[.int .i64 t208, .bool t209, .int .i64 t210, .int .i64 t211, .int .i64 t212, .int .i64 t213]] rfl ?_; (with_reducible refine (laws_eqWord.calls t228 t229 t230 t231 t232 t233 t208 t209 t210 t211 t212 t213 true _ A16.out).mono ?_); rintro e w123 ⟨rfl, hb⟩; refine ⟨_, rfl, ?_⟩; have n0_ := Aside0.mk (Kd.R_below (by (with_reducible repeat (first | apply Kd.R_alloc | apply Kd.R_drewN | apply Kd.R_drew)); exact (f6 (Kd.R_mono HO198.out (fun k_ hk => (⟨hk, hk.2.2⟩ : _ ∧ k_ ≠ gb234))))) hb); have n1_ := Aside0.mk (Kd.R_below (by (with_reducible repeat (first | apply Kd.R_alloc | apply Kd.R_drewN | apply Kd.R_drew)); exact (f6 (Kd.R_types HO201.out BK234.out (by decide)))) hb); have n2_ := Aside0.mk (Kd.R_below (by (with_reducible repeat (first | apply Kd.R_alloc | apply Kd.R_drewN | apply Kd.R_drew)); exact (f6 (Kd.R_mono HO217.out (fun k_ hk => (⟨hk, hk.2.2⟩ : _ ∧ k_ ≠ gb234))))) hb); have n3_ := Aside0.mk (Kd.R_below (by (with_reducible repeat (first | apply Kd.R_alloc | apply Kd.R_drewN | apply Kd.R_drew)); exact (f6 (Kd.R_types HO220.out BK234.out (by decide)))) hb); have n4_ := nblk BK193 hb; have n5_ := nblk BK194 hb; have n6_ := nblk BK214 hb; have n7_ := nblk BK221 hb; have n8_ := Aside0.mk (blk_below (g := gb234) (o := .cells #[.int .i64 t228, .bool t229, .int .i64 t230, .int .i64 t231, .int .i64 t232, .int .i64 t233] 33 (0, 0)) (by (with_reducible repeat (first | refine blk_drewN ?_ _ | refine blk_drew ?_ | refine blk_alloc ?_ _)); refine blk_put (cs := #[.int .i64 t228, .bool t229, .int .i64 t230, .int .i64 t231, .int .i64 t232, .int .i64 0]) ?_ 5 _ rfl; (with_reducible repeat (first | refine blk_drewN ?_ _ | refine blk_drew ?_ | refine blk_alloc ?_ _)); refine blk_put (cs := #[.int .i64 t228, .bool t229, .int .i64 t230, .int .i64 t231, .int .i64 0, .int .i64 0]) ?_ 4 _ rfl; (with_reducible repeat (first | refine blk_drewN ?_ _ | refine blk_drew ?_ | refine blk_alloc ?_ _)); refine blk_put (cs := #[.int .i64 t228, .bool t229, .int .i64 t230, .int .i64 0, .int .i64 0, .int .i64 0]) ?_ 3 _ rfl; (with_reducible repeat (first | refine blk_drewN ?_ _ | refine blk_drew ?_ | refine blk_alloc ?_ _)); refine blk_put (cs := #[.int .i64 t228, .bool t229, .int .i64 0, .int .i64 0, .int .i64 0, .int .i64 0]) ?_ 2 _ rfl; (with_reducible repeat (first | refine blk_drewN ?_ _ | refine blk_drew ?_ | refine blk_alloc ?_ _)); refine blk_put (cs := #[.int .i64 t228, .bool false, .int .i64 0, .int .i64 0, .int .i64 0, .int .i64 0]) ?_ 1 _ rfl; (with_reducible repeat (first | refine blk_drewN ?_ _ | refine blk_drew ?_ | refine blk_alloc ?_ _)); refine blk_put (cs := #[.int .i64 0, .bool false, .int .i64 0, .int .i64 0, .int .i64 0, .int .i64 0]) ?_ 0 _ rfl; (with_reducible repeat (first | refine blk_drewN ?_ _ | refine blk_drew ?_ | refine blk_alloc ?_ _)); exact BK234.out) hb); have n9_ := nbs HB hb; clear HO198 HO201 HO217 HO220 BK193 BK194 BK214 BK221 BK234 HB; have HO198 := n0_; have HO201 := n1_; have HO217 := n2_; have HO220 := n3_; have BK193 := n4_; have BK194 := n5_; have BK214 := n6_; have BK221 := n7_; have BK234 := n8_; have HB := n9_; clear n0_ n1_ n2_ n3_ n4_ n5_ n6_ n7_ n8_ n9_; (try clear hb)))
    have n0_ := Aside0.mk (Kd.R_drew HO198.out)
    have n1_ := Aside0.mk (Kd.R_drew HO201.out)
    have n2_ := Aside0.mk (Kd.R_drew HO217.out)
    have n3_ := Aside0.mk (Kd.R_drew HO220.out)
    have n4_ := Aside0.mk (blk_drew BK193.out)
    have n5_ := Aside0.mk (blk_drew BK194.out)
    have n6_ := Aside0.mk (blk_drew BK214.out)
    have n7_ := Aside0.mk (blk_drew BK221.out)
    have n8_ := Aside0.mk (blk_drew BK234.out)
    have n9_ := Aside0.mk (below_drew1 HB.out)
    clear HO198 HO201 HO217 HO220 BK193 BK194 BK214 BK221 BK234 HB
    have HO198 := n0_
    have HO201 := n1_
    have HO217 := n2_
    have HO220 := n3_
    have BK193 := n4_
    have BK194 := n5_
    have BK214 := n6_
    have BK221 := n7_
    have BK234 := n8_
    have HB := n9_
    clear n0_ n1_ n2_ n3_ n4_ n5_ n6_ n7_ n8_ n9_
    refine start_ (n := 5) (S := fun w' => w'.cell? ⟨gb221, 0, none⟩ = some (.slice Ao98 t215.length co98) ∧ w'.cell? ⟨gb221, 1, none⟩ = some (.slice Ao103 t218.length co103) ∧ w'.cell? ⟨gb193, 0, none⟩ = some (.slice A0_0 l0_0.length c0_0) ∧ w'.cell? ⟨gb193, 1, none⟩ = some (.slice A0_1 l0_1.length c0_1)) (ds := []) #[false, false, false, false, false] (by kernel_rfl) rfl rfl (c2 BK221 (c2e BK193)) (fun hHeld => ?_)
    generalize w123.drew = w124 at HO198 HO201 HO217 HO220 BK193 BK194 BK214 BK221 BK234 HB hHeld ⊢
    refine take_ (i := 0) (N := some 29) (v := ?_) (a' := ?_) #[true, false, false, false, false] rfl rfl (by kernel_rfl) (fun _ _ _ h => h) (Or.inl ⟨by rfl, ?_⟩) hHeld ?_ ?_
    rotate_left
    ·rintro w' ⟨s0, s1, s2, s3⟩
     go_simp
     with_reducible rfl
    rotate_left
    ·simp only [Act.put, List.setIfInBounds_toArray, List.set_cons_zero, List.set_cons_succ, i64_w, i32_w]
     rfl
    refine take_ (i := 1) (N := some 30) (v := ?_) (a' := ?_) #[true, true, false, false, false] rfl rfl (by kernel_rfl) (fun _ _ _ h => h) (Or.inl ⟨by rfl, ?_⟩) hHeld ?_ ?_
    rotate_left
    ·rintro w' ⟨s0, s1, s2, s3⟩
     go_simp
     with_reducible rfl
    rotate_left
    ·simp only [Act.put, List.setIfInBounds_toArray, List.set_cons_zero, List.set_cons_succ, i64_w, i32_w]
     rfl
    refine one_ (i := 2) (N := some 31) #[true, true, true, false, false] rfl rfl (by kernel_rfl) (by decide) (fun K hK => ?_)
    refine goesR Try.func14 (by kernel_rfl) rfl #[.agg #[.slice A0_0 l0_0.length c0_0, .slice A0_1 l0_1.length c0_1]] (by rfl) rfl rfl ?_
    with_reducible refine (laws_toMemory.calls k _ _ l0_0 _ _ l0_1 t236 t239 _ ?side1 ?side2 ?side3 ?side4 A18.out).mono ?_
    (case side1 => repeat (first | exact (Kd.C_below HR0_0.out HB.out) | (with_reducible refine Kd.C_alloc ?_ _) | (with_reducible refine Kd.C_drewN ?_ _) | (with_reducible refine Kd.C_drew ?_)))
    (case side2 => exact HC0_0.out)
    (case side3 => repeat (first | exact (Kd.C_below HR0_1.out HB.out) | (with_reducible refine Kd.C_alloc ?_ _) | (with_reducible refine Kd.C_drewN ?_ _) | (with_reducible refine Kd.C_drew ?_)))
    (case side4 => exact HC0_1.out)
    rintro e w125 ⟨v237, v240, rfl, ho0, ho1, hb⟩
    refine ⟨_, rfl, ?_⟩
    have n0_ := Aside0.mk (Kd.R_elder' (nRo HO198) (Kd.R_base ho0) hb)
    have n1_ := Aside0.mk (Kd.R_elder' (nRo HO201) (Kd.R_base ho1) hb)
    have n2_ := Aside0.mk (Kd.R_elder' (nRo HO217) (Kd.R_base ho0) hb)
    have n3_ := Aside0.mk (Kd.R_elder' (nRo HO220) (Kd.R_base ho1) hb)
    have n4_ := Aside0.mk (Kd.R_lower (Kd.R_newB (Kd.R_newB (Kd.R_new' (Kd.R_new' ho0 (Kd.R_lt (nRo HO198))) (Kd.R_lt (nRo HO217))) (g := gb214) (o := .cells #[.int .i64 t208, .bool t209, .int .i64 t210, .int .i64 t211, .int .i64 t212, .int .i64 t213] 33 (0, 0)) (nb BK214)) (g := gb234) (o := .cells #[.int .i64 t228, .bool t229, .int .i64 t230, .int .i64 t231, .int .i64 t232, .int .i64 t233] 33 (0, 0)) (nb BK234)) (below_size (by repeat (first | (with_reducible first | exact HB.out | apply below_alloc | apply pw_below_drewN | apply below_drew1 | refine below_set ?_ GE193.out | refine below_set ?_ GE194.out | refine below_set ?_ GE214.out | refine below_set ?_ GE221.out | refine below_set ?_ GE234.out) | exact HB.out))))
    have n5_ := Aside0.mk (Kd.R_lower (Kd.R_new' (Kd.R_new' ho1 (Kd.R_lt (nRo HO201))) (Kd.R_lt (nRo HO220))) (below_size (by repeat (first | (with_reducible first | exact HB.out | apply below_alloc | apply pw_below_drewN | apply below_drew1 | refine below_set ?_ GE193.out | refine below_set ?_ GE194.out | refine below_set ?_ GE214.out | refine below_set ?_ GE221.out | refine below_set ?_ GE234.out) | exact HB.out))))
    have n6_ := nblk BK193 hb
    have n7_ := nblk BK194 hb
    have n8_ := nblk BK214 hb
    have n9_ := nblk BK221 hb
    have n10_ := nblk BK234 hb
    have n11_ := nbs HB hb
    clear HO198 HO201 HO217 HO220 BK193 BK194 BK214 BK221 BK234 HB
    have HO198 := n0_
    have HO201 := n1_
    have HO217 := n2_
    have HO220 := n3_
    have HO238 := n4_
    have HO241 := n5_
    have BK193 := n6_
    have BK194 := n7_
    have BK214 := n8_
    have BK221 := n9_
    have BK234 := n10_
    have HB := n11_
    clear n0_ n1_ n2_ n3_ n4_ n5_ n6_ n7_ n8_ n9_ n10_ n11_
    (try clear hb)
    (try clear ho0)
    (try clear ho1)
    obtain ⟨Ao126, co126, eo126⟩ := Kd.R_slice HO238.out
    (first | subst eo126 | (injection eo126 with f1_ f2_ f3_; have f4_ := f1_.symm; have f5_ := f3_.symm; clear f1_ f2_ f3_; subst f4_; subst f5_))
    obtain ⟨Ao127, co127, eo127⟩ := Kd.R_slice HO241.out
    (first | subst eo127 | (injection eo127 with f1_ f2_ f3_; have f4_ := f1_.symm; have f5_ := f3_.symm; clear f1_ f2_ f3_; subst f4_; subst f5_))
    refine hK.out _ _ (c2 BK221 (c2e BK193)) (fun hHeld => ?_)
    clear hK K
    refine norm_ (a' := ?_) ?_ ?_
    rotate_left
    ·show Act.put _ (some 31) _ = _
     simp only [Act.put, List.setIfInBounds_toArray, List.set_cons_zero, List.set_cons_succ, i64_w, i32_w]
     rfl
    refine one_ (i := 3) (N := some 32) #[true, true, true, true, false] rfl rfl (by kernel_rfl) (by decide) (fun K hK => ?_)
    refine goesR Try.func18 (by kernel_rfl) rfl #[.agg #[.slice Ao98 t215.length co98, .slice Ao103 t218.length co103], .agg #[.slice Ao126 t236.length co126, .slice Ao127 t239.length co127]] (by rfl) rfl rfl ?_
    with_reducible refine (laws_eqMemory.calls k _ _ t215 _ _ t218 _ _ t236 _ _ t239 false _ ?side1 ?side2 ?side3 ?side4 ?side5 ?side6 ?side7 ?side8 A19.out).mono ?_
    (case side1 => repeat (first | exact (Kd.R_reads' HO217.out).2.2 | (with_reducible refine Kd.C_alloc ?_ _) | (with_reducible refine Kd.C_drewN ?_ _) | (with_reducible refine Kd.C_drew ?_)))
    (case side2 => exact (Kd.R_reads' HO217.out).2.1)
    (case side3 => repeat (first | exact (Kd.R_reads' HO220.out).2.2 | (with_reducible refine Kd.C_alloc ?_ _) | (with_reducible refine Kd.C_drewN ?_ _) | (with_reducible refine Kd.C_drew ?_)))
    (case side4 => exact (Kd.R_reads' HO220.out).2.1)
    (case side5 => repeat (first | exact (Kd.R_reads' HO238.out).2.2 | (with_reducible refine Kd.C_alloc ?_ _) | (with_reducible refine Kd.C_drewN ?_ _) | (with_reducible refine Kd.C_drew ?_)))
    (case side6 => exact (Kd.R_reads' HO238.out).2.1)
    (case side7 => repeat (first | exact (Kd.R_reads' HO241.out).2.2 | (with_reducible refine Kd.C_alloc ?_ _) | (with_reducible refine Kd.C_drewN ?_ _) | (with_reducible refine Kd.C_drew ?_)))
    (case side8 => exact (Kd.R_reads' HO241.out).2.1)
    rintro e w128 ⟨rfl, hb⟩
    refine ⟨_, rfl, ?_⟩
    have n0_ := nR HO198 hb
    have n1_ := nR HO201 hb
    have n2_ := nR HO217 hb
    have n3_ := nR HO220 hb
    have n4_ := nR HO238 hb
    have n5_ := nR HO241 hb
    have n6_ := nblk BK193 hb
    have n7_ := nblk BK194 hb
    have n8_ := nblk BK214 hb
    have n9_ := nblk BK221 hb
    have n10_ := nblk BK234 hb
    have n11_ := nbs HB hb
    clear HO198 HO201 HO217 HO220 HO238 HO241 BK193 BK194 BK214 BK221 BK234 HB
    have HO198 := n0_
    have HO201 := n1_
    have HO217 := n2_
    have HO220 := n3_
    have HO238 := n4_
    have HO241 := n5_
    have BK193 := n6_
    have BK194 := n7_
    have BK214 := n8_
    have BK221 := n9_
    have BK234 := n10_
    have HB := n11_
    clear n0_ n1_ n2_ n3_ n4_ n5_ n6_ n7_ n8_ n9_ n10_ n11_
    (try clear hb)
    refine hK.out _ _ (c2 BK221 (c2e BK193)) (fun hHeld => ?_)
    clear hK K
    refine norm_ (a' := ?_) ?_ ?_
    rotate_left
    ·show Act.put _ (some 32) _ = _
     simp only [Act.put, List.setIfInBounds_toArray, List.set_cons_zero, List.set_cons_succ, i64_w, i32_w]
     rfl
    refine pure_ (i := 4) (N := some 33) (v := ?_) (a' := ?_) #[true, true, true, true, true] rfl rfl (by kernel_rfl) (fun _ _ _ h => h) (Or.inl ⟨by rfl, ?_⟩) ?_ ?_
    rotate_left
    ·intro w'
     go_simp
     with_reducible rfl
    rotate_left
    ·simp only [Act.put, List.setIfInBounds_toArray, List.set_cons_zero, List.set_cons_succ, i64_w, i32_w]
     rfl
    refine done_ (by kernel_rfl) ?_
    try go_wp2
    go_ret
    exact ⟨by first | rfl | (simp [errW_none, errW_some] <;> rfl) | (simp [*, errW_none, errW_some] <;> rfl), by repeat (first | (with_reducible first | exact HB.out | apply below_alloc | apply pw_below_drewN | apply below_drew1 | refine below_set ?_ GE193.out | refine below_set ?_ GE194.out | refine below_set ?_ GE214.out | refine below_set ?_ GE221.out | refine below_set ?_ GE234.out) | exact HB.out)⟩
  ·replace c17 := Bool.eq_false_iff.mpr c17
   subst c17
   have H1 : (some false) = some r := by rw [if_neg (show ¬ (false = true) by decide)] at H; exact H
   clear H
   have H := H1
   clear H1
   obtain rfl := Option.some.inj H
   go_enter Try.func3, Try.ntmps3
   try go_wp2_with (first | ((with_reducible refine gate_dst (N := 2) rfl ?_); refine box_event ?hg (N := 2) ?hd (cs := #[.slice A0_0 l0_0.length c0_0, .slice A0_1 l0_1.length c0_1]) (t := 25) ?hr ?_; (case hd => rfl); (case hg => rfl); (case hr => first | (go_simp; done) | (go_simp; rfl)); intro gb193 hg w129 hbox hb; have n0_ := nbs HB hb; have n1_ := Aside0.mk (hbox); have n2_ := nge HB hg; have n3_ := nge HB hg; clear HB; have HB := n0_; have BK193 := n1_; have GW193 := n2_; have GE193 := n3_; clear n0_ n1_ n2_ n3_; clear hb hbox hg) | ((with_reducible refine gate_dst (N := 3) rfl ?_); refine box_event ?hg (N := 3) ?hd (cs := #[.int .i64 a1_0, .bool a1_1, .int .i64 a1_2, .int .i64 a1_3, .int .i64 a1_4, .int .i64 a1_5]) (t := 29) ?hr ?_; (case hd => rfl); (case hg => rfl); (case hr => first | (go_simp; done) | (go_simp; rfl)); intro gb194 hg w130 hbox hb; have n0_ := nblk BK193 hb; have n1_ := nbs HB hb; have n2_ := Aside0.mk (hbox); have n3_ := nge HB hg; have n4_ := nge HB hg; have n5_ := nlt BK193 hg; have n6_ := ngt BK193 hg; clear BK193 HB; have BK193 := n0_; have HB := n1_; have BK194 := n2_; have GW194 := n3_; have GE194 := n4_; have NB193_194 := n5_; have NB194_193 := n6_; clear n0_ n1_ n2_ n3_ n4_ n5_ n6_; clear hb hbox hg; have hnb131 := NB193_194.out; have hnc131 := NB194_193.out; have hcz132_0 : w130.cell? ⟨gb193, 0, none⟩ = some (.slice A0_0 l0_0.length c0_0) := (blk_cell BK193.out 0).trans rfl; have hcz132_1 : w130.cell? ⟨gb193, 1, none⟩ = some (.slice A0_1 l0_1.length c0_1) := (blk_cell BK193.out 1).trans rfl; have hfz132_0 := blk_frozen BK193.out 0; have hfz132_1 := blk_frozen BK193.out 1) | ((with_reducible refine gate_callee (f := 12) rfl ?_); refine goesM (some 11) rfl rfl Try.func12 (by kernel_rfl) rfl #[.agg #[.slice A0_0 l0_0.length c0_0, .slice A0_1 l0_1.length c0_1], .int .i64 1048576] rfl ?_; (with_reducible refine (laws_szMemory.calls _ _ l0_0 _ _ l0_1 1048576 t195 _ ?side1 ?side2 ?side3 ?side4 A3.out).mono ?_); (case side1 => repeat (first | exact (Kd.C_below HR0_0.out HB.out) | (with_reducible refine Kd.C_alloc ?_ _) | (with_reducible refine Kd.C_drewN ?_ _) | (with_reducible refine Kd.C_drew ?_))); (case side2 => exact HC0_0.out); (case side3 => repeat (first | exact (Kd.C_below HR0_1.out HB.out) | (with_reducible refine Kd.C_alloc ?_ _) | (with_reducible refine Kd.C_drewN ?_ _) | (with_reducible refine Kd.C_drew ?_))); (case side4 => exact HC0_1.out); rintro e w133 ⟨rfl, hb⟩; refine ⟨_, rfl, ?_⟩; have n0_ := nblk BK193 hb; have n1_ := nblk BK194 hb; have n2_ := nbs HB hb; clear BK193 BK194 HB; have BK193 := n0_; have BK194 := n1_; have HB := n2_; clear n0_ n1_ n2_; (try clear hb)))
   have n0_ := Aside0.mk (blk_drew BK193.out)
   have n1_ := Aside0.mk (blk_drew BK194.out)
   have n2_ := Aside0.mk (below_drew1 HB.out)
   clear BK193 BK194 HB
   have BK193 := n0_
   have BK194 := n1_
   have HB := n2_
   clear n0_ n1_ n2_
   refine start_ (n := 7) (S := fun w' => w'.cell? ⟨gb193, 0, none⟩ = some (.slice A0_0 l0_0.length c0_0) ∧ w'.cell? ⟨gb193, 1, none⟩ = some (.slice A0_1 l0_1.length c0_1) ∧ w'.cell? ⟨gb194, 0, none⟩ = some (.int .i64 a1_0) ∧ w'.cell? ⟨gb194, 1, none⟩ = some (.bool a1_1) ∧ w'.cell? ⟨gb194, 2, none⟩ = some (.int .i64 a1_2) ∧ w'.cell? ⟨gb194, 3, none⟩ = some (.int .i64 a1_3) ∧ w'.cell? ⟨gb194, 4, none⟩ = some (.int .i64 a1_4) ∧ w'.cell? ⟨gb194, 5, none⟩ = some (.int .i64 a1_5)) (ds := []) #[false, false, false, false, false, false, false] (by kernel_rfl) rfl rfl (c2 BK193 (c6e BK194)) (fun hHeld => ?_)
   generalize w133.drew = w134 at BK193 BK194 HB hHeld ⊢
   refine take_ (i := 0) (N := some 14) (v := ?_) (a' := ?_) #[true, false, false, false, false, false, false] rfl rfl (by kernel_rfl) (fun _ _ _ h => h) (Or.inl ⟨by rfl, ?_⟩) hHeld ?_ ?_
   rotate_left
   ·rintro w' ⟨s0, s1, s2, s3, s4, s5, s6, s7⟩
    go_simp
    with_reducible rfl
   rotate_left
   ·simp only [Act.put, List.setIfInBounds_toArray, List.set_cons_zero, List.set_cons_succ, i64_w, i32_w]
    rfl
   refine take_ (i := 2) (N := some 16) (v := ?_) (a' := ?_) #[true, false, true, false, false, false, false] rfl rfl (by kernel_rfl) (fun _ _ _ h => h) (Or.inl ⟨by rfl, ?_⟩) hHeld ?_ ?_
   rotate_left
   ·rintro w' ⟨s0, s1, s2, s3, s4, s5, s6, s7⟩
    go_simp
    with_reducible rfl
   rotate_left
   ·simp only [Act.put, List.setIfInBounds_toArray, List.set_cons_zero, List.set_cons_succ, i64_w, i32_w]
    rfl
   refine join_ (σ := Value × Value × Nat) 1 #[true, true, true, true, true, true, false] (fun s_ => [(15, .agg #[s_.1, s_.2.1]), (17, .agg #[.int .i64 t202, .bool t203, .int .i64 t204, .int .i64 t205, .int .i64 t206, .int .i64 t207]), (18, .agg #[.int .i64 t208, .bool t209, .int .i64 t210, .int .i64 t211, .int .i64 t212, .int .i64 t213]), (6, .pointer (some ⟨s_.2.2, 0, none⟩))]) (fun s_ w' => (w'.cell? ⟨gb193, 0, none⟩ = some (.slice A0_0 l0_0.length c0_0) ∧ w'.cell? ⟨gb193, 1, none⟩ = some (.slice A0_1 l0_1.length c0_1) ∧ w'.cell? ⟨gb194, 0, none⟩ = some (.int .i64 a1_0) ∧ w'.cell? ⟨gb194, 1, none⟩ = some (.bool a1_1) ∧ w'.cell? ⟨gb194, 2, none⟩ = some (.int .i64 a1_2) ∧ w'.cell? ⟨gb194, 3, none⟩ = some (.int .i64 a1_3) ∧ w'.cell? ⟨gb194, 4, none⟩ = some (.int .i64 a1_4) ∧ w'.cell? ⟨gb194, 5, none⟩ = some (.int .i64 a1_5)) ∧ (Kd.R k33 33 w' w.heap.size (fun k_ => k_ ≠ s_.2.2) s_.1 t196) ∧ (Kd.R Kd.bool 4 w' w.heap.size (fun _ => True) s_.2.1 t199) ∧ (w'.heap[gb193]? = some (.cells #[.slice A0_0 l0_0.length c0_0, .slice A0_1 l0_1.length c0_1] 25 (0, 0))) ∧ (w'.heap[gb194]? = some (.cells #[.int .i64 a1_0, .bool a1_1, .int .i64 a1_2, .int .i64 a1_3, .int .i64 a1_4, .int .i64 a1_5] 29 (0, 0))) ∧ (w'.heap[s_.2.2]? = some (.cells #[.int .i64 0, .bool false, .int .i64 0, .int .i64 0, .int .i64 0, .int .i64 0] 33 (0, 0))) ∧ (w.heap.size ≤ s_.2.2) ∧ (w.heap.size ≤ s_.2.2) ∧ (gb193 ≠ s_.2.2) ∧ (s_.2.2 ≠ gb193) ∧ (gb194 ≠ s_.2.2) ∧ (s_.2.2 ≠ gb194) ∧ (Below w.heap.size w w')) ?_ ?_
   rotate_left
   ·intro hCont
    refine two_ (i := 1) (j := 5) (Ni := some 15) (Nj := some 6) #[true, true, true, false, false, false, false] #[true, false, true, false, false, true, false] rfl rfl rfl rfl (by kernel_rfl) (by decide) (by decide) (fun K hK => ?_) (fun K hK => ?_)
    ·skip
     refine goesR Try.func14 (by kernel_rfl) rfl #[.agg #[.slice A0_0 l0_0.length c0_0, .slice A0_1 l0_1.length c0_1]] (by rfl) rfl rfl ?_
     with_reducible refine (laws_toMemory.calls k _ _ l0_0 _ _ l0_1 t196 t199 _ ?side1 ?side2 ?side3 ?side4 A10.out).mono ?_
     (case side1 => repeat (first | exact (Kd.C_below HR0_0.out HB.out) | (with_reducible refine Kd.C_alloc ?_ _) | (with_reducible refine Kd.C_drewN ?_ _) | (with_reducible refine Kd.C_drew ?_)))
     (case side2 => exact HC0_0.out)
     (case side3 => repeat (first | exact (Kd.C_below HR0_1.out HB.out) | (with_reducible refine Kd.C_alloc ?_ _) | (with_reducible refine Kd.C_drewN ?_ _) | (with_reducible refine Kd.C_drew ?_)))
     (case side4 => exact HC0_1.out)
     rintro e w135 ⟨v197, v200, rfl, ho0, ho1, hb⟩
     refine ⟨_, rfl, ?_⟩
     have n0_ := Aside0.mk (Kd.R_lower ho0 (below_size (by repeat (first | (with_reducible first | exact HB.out | apply below_alloc | apply pw_below_drewN | apply below_drew1 | refine below_set ?_ GE193.out | refine below_set ?_ GE194.out) | exact HB.out))))
     have n1_ := Aside0.mk (Kd.R_lower ho1 (below_size (by repeat (first | (with_reducible first | exact HB.out | apply below_alloc | apply pw_below_drewN | apply below_drew1 | refine below_set ?_ GE193.out | refine below_set ?_ GE194.out) | exact HB.out))))
     have n2_ := nblk BK193 hb
     have n3_ := nblk BK194 hb
     have n4_ := nbs HB hb
     clear BK193 BK194 HB
     have HO198 := n0_
     have HO201 := n1_
     have BK193 := n2_
     have BK194 := n3_
     have HB := n4_
     clear n0_ n1_ n2_ n3_ n4_
     (try clear hb)
     (try clear ho0)
     (try clear ho1)
     refine hK.out _ _ (c2 BK193 (c6e BK194)) (fun hHeld => ?_)
     clear hK K
     refine norm_ (a' := ?_) ?_ ?_
     rotate_left
     ·show Act.put _ (some 15) _ = _
      simp only [Act.put, List.setIfInBounds_toArray, List.set_cons_zero, List.set_cons_succ, i64_w, i32_w]
      rfl
     refine two_ (i := 3) (j := 5) (Ni := some 17) (Nj := some 6) #[true, true, true, true, false, false, false] #[true, true, true, false, false, true, false] rfl rfl rfl rfl (by kernel_rfl) (by decide) (by decide) (fun K hK => ?_) (fun K hK => ?_)
     ·skip
      refine goesR Try.func15 (by kernel_rfl) rfl #[.agg #[.int .i64 a1_0, .bool a1_1, .int .i64 a1_2, .int .i64 a1_3, .int .i64 a1_4, .int .i64 a1_5]] (by rfl) rfl rfl ?_
      with_reducible refine (laws_toWord.calls a1_0 a1_1 a1_2 a1_3 a1_4 a1_5 t202 t203 t204 t205 t206 t207 _ A11.out).mono ?_
      rintro e w136 ⟨rfl, hb⟩
      refine ⟨_, rfl, ?_⟩
      have n0_ := nR HO198 hb
      have n1_ := nR HO201 hb
      have n2_ := nblk BK193 hb
      have n3_ := nblk BK194 hb
      have n4_ := nbs HB hb
      clear HO198 HO201 BK193 BK194 HB
      have HO198 := n0_
      have HO201 := n1_
      have BK193 := n2_
      have BK194 := n3_
      have HB := n4_
      clear n0_ n1_ n2_ n3_ n4_
      (try clear hb)
      obtain ⟨Ao137, co137, eo137⟩ := Kd.R_slice HO198.out
      (first | subst eo137 | (injection eo137 with f1_ f2_ f3_; have f4_ := f1_.symm; have f5_ := f3_.symm; clear f1_ f2_ f3_; subst f4_; subst f5_))
      obtain ⟨Ao138, co138, eo138⟩ := Kd.R_slice HO201.out
      (first | subst eo138 | (injection eo138 with f1_ f2_ f3_; have f4_ := f1_.symm; have f5_ := f3_.symm; clear f1_ f2_ f3_; subst f4_; subst f5_))
      refine hK.out _ _ (c2 BK193 (c6e BK194)) (fun hHeld => ?_)
      clear hK K
      refine norm_ (a' := ?_) ?_ ?_
      rotate_left
      ·show Act.put _ (some 17) _ = _
       simp only [Act.put, List.setIfInBounds_toArray, List.set_cons_zero, List.set_cons_succ, i64_w, i32_w]
       rfl
      refine two_ (i := 4) (j := 5) (Ni := some 18) (Nj := some 6) #[true, true, true, true, true, false, false] #[true, true, true, true, false, true, false] rfl rfl rfl rfl (by kernel_rfl) (by decide) (by decide) (fun K hK => ?_) (fun K hK => ?_)
      ·skip
       refine goesR Try.func13 (by kernel_rfl) rfl #[.agg #[.slice Ao137 t196.length co137, .slice Ao138 t199.length co138], .agg #[.int .i64 t202, .bool t203, .int .i64 t204, .int .i64 t205, .int .i64 t206, .int .i64 t207]] (by rfl) rfl rfl ?_
       with_reducible refine (spec_Filter.calls _ _ t196 _ _ t199 t202 t203 t204 t205 t206 t207 t208 t209 t210 t211 t212 t213 _ ?side1 ?side2 ?side3 ?side4 A12.out).mono ?_
       (case side1 => repeat (first | exact (Kd.R_reads' HO198.out).2.2 | (with_reducible refine Kd.C_alloc ?_ _) | (with_reducible refine Kd.C_drewN ?_ _) | (with_reducible refine Kd.C_drew ?_)))
       (case side2 => exact (Kd.R_reads' HO198.out).2.1)
       (case side3 => repeat (first | exact (Kd.R_reads' HO201.out).2.2 | (with_reducible refine Kd.C_alloc ?_ _) | (with_reducible refine Kd.C_drewN ?_ _) | (with_reducible refine Kd.C_drew ?_)))
       (case side4 => exact (Kd.R_reads' HO201.out).2.1)
       rintro e w139 ⟨rfl, hb⟩
       refine ⟨_, rfl, ?_⟩
       have n0_ := nR HO198 hb
       have n1_ := nR HO201 hb
       have n2_ := nblk BK193 hb
       have n3_ := nblk BK194 hb
       have n4_ := nbs HB hb
       clear HO198 HO201 BK193 BK194 HB
       have HO198 := n0_
       have HO201 := n1_
       have BK193 := n2_
       have BK194 := n3_
       have HB := n4_
       clear n0_ n1_ n2_ n3_ n4_
       (try clear hb)
       refine hK.out _ _ (c2 BK193 (c6e BK194)) (fun hHeld => ?_)
       clear hK K
       refine norm_ (a' := ?_) ?_ ?_
       rotate_left
       ·show Act.put _ (some 18) _ = _
        simp only [Act.put, List.setIfInBounds_toArray, List.set_cons_zero, List.set_cons_succ, i64_w, i32_w]
        rfl
       refine one_ (i := 5) (N := some 6) #[true, true, true, true, true, true, false] rfl rfl (by kernel_rfl) (by decide) (fun K hK => ?_)
       refine box_step ?hg (N := 6) ?hd (cs := #[.int .i64 0, .bool false, .int .i64 0, .int .i64 0, .int .i64 0, .int .i64 0]) (t := 33) ?hr ?_; (case hd => rfl); (case hg => rfl); (case hr => first | (go_simp; done) | (go_simp; rfl))
       intro gb214 hg w140 hbox hb
       have n0_ := Aside0.mk (Kd.R_below (Kd.R_elderB (nRo HO198) gb214 (Nat.le_of_eq hg.symm)) hb)
       have n1_ := nR HO201 hb
       have n2_ := nblk BK193 hb
       have n3_ := nblk BK194 hb
       have n4_ := nbs HB hb
       have n5_ := Aside0.mk (hbox)
       have n6_ := nge HB hg
       have n7_ := nge HB hg
       have n8_ := nlt BK193 hg
       have n9_ := ngt BK193 hg
       have n10_ := nlt BK194 hg
       have n11_ := ngt BK194 hg
       clear HO198 HO201 BK193 BK194 HB
       have HO198 := n0_
       have HO201 := n1_
       have BK193 := n2_
       have BK194 := n3_
       have HB := n4_
       have BK214 := n5_
       have GW214 := n6_
       have GE214 := n7_
       have NB193_214 := n8_
       have NB214_193 := n9_
       have NB194_214 := n10_
       have NB214_194 := n11_
       clear n0_ n1_ n2_ n3_ n4_ n5_ n6_ n7_ n8_ n9_ n10_ n11_
       clear hb hbox hg
       refine hK.out _ _ (c2 BK193 (c6e BK194)) (fun hHeld => ?_)
       clear hK K
       refine norm_ (a' := ?_) ?_ ?_
       rotate_left
       ·show Act.put _ (some 6) _ = _
        simp only [Act.put, List.setIfInBounds_toArray, List.set_cons_zero, List.set_cons_succ, i64_w, i32_w]
        rfl
       exact norm_ (by simp only [putAll, Act.put, List.setIfInBounds_toArray, List.set_cons_zero, List.set_cons_succ]) (hCont (.slice Ao137 t196.length co137, .slice Ao138 t199.length co138, gb214) _ ⟨hHeld, (by (with_reducible repeat (first | apply Kd.R_alloc | apply Kd.R_drewN | apply Kd.R_drew)); exact Kd.R_mono HO198.out (fun _ hk => hk.2)), (nRo HO201), (nb BK193), (nb BK194), (nb BK214), GW214.out, GE214.out, NB193_214.out, NB214_193.out, NB194_214.out, NB214_194.out, (by repeat (first | (with_reducible first | exact HB.out | apply below_alloc | apply pw_below_drewN | apply below_drew1 | refine below_set ?_ GE193.out | refine below_set ?_ GE194.out | refine below_set ?_ GE214.out) | exact HB.out))⟩)
      ·skip
       refine box_step ?hg (N := 6) ?hd (cs := #[.int .i64 0, .bool false, .int .i64 0, .int .i64 0, .int .i64 0, .int .i64 0]) (t := 33) ?hr ?_; (case hd => rfl); (case hg => rfl); (case hr => first | (go_simp; done) | (go_simp; rfl))
       intro gb214 hg w137 hbox hb
       have n0_ := Aside0.mk (Kd.R_below (Kd.R_elderB (nRo HO198) gb214 (Nat.le_of_eq hg.symm)) hb)
       have n1_ := nR HO201 hb
       have n2_ := nblk BK193 hb
       have n3_ := nblk BK194 hb
       have n4_ := nbs HB hb
       have n5_ := Aside0.mk (hbox)
       have n6_ := nge HB hg
       have n7_ := nge HB hg
       have n8_ := nlt BK193 hg
       have n9_ := ngt BK193 hg
       have n10_ := nlt BK194 hg
       have n11_ := ngt BK194 hg
       clear HO198 HO201 BK193 BK194 HB
       have HO198 := n0_
       have HO201 := n1_
       have BK193 := n2_
       have BK194 := n3_
       have HB := n4_
       have BK214 := n5_
       have GW214 := n6_
       have GE214 := n7_
       have NB193_214 := n8_
       have NB214_193 := n9_
       have NB194_214 := n10_
       have NB214_194 := n11_
       clear n0_ n1_ n2_ n3_ n4_ n5_ n6_ n7_ n8_ n9_ n10_ n11_
       clear hb hbox hg
       obtain ⟨Ao138, co138, eo138⟩ := Kd.R_slice HO198.out
       (first | subst eo138 | (injection eo138 with f1_ f2_ f3_; have f4_ := f1_.symm; have f5_ := f3_.symm; clear f1_ f2_ f3_; subst f4_; subst f5_))
       obtain ⟨Ao139, co139, eo139⟩ := Kd.R_slice HO201.out
       (first | subst eo139 | (injection eo139 with f1_ f2_ f3_; have f4_ := f1_.symm; have f5_ := f3_.symm; clear f1_ f2_ f3_; subst f4_; subst f5_))
       refine hK.out _ _ (c2 BK193 (c6e BK194)) (fun hHeld => ?_)
       clear hK K
       refine norm_ (a' := ?_) ?_ ?_
       rotate_left
       ·show Act.put _ (some 6) _ = _
        simp only [Act.put, List.setIfInBounds_toArray, List.set_cons_zero, List.set_cons_succ, i64_w, i32_w]
        rfl
       refine one_ (i := 4) (N := some 18) #[true, true, true, true, true, true, false] rfl rfl (by kernel_rfl) (by decide) (fun K hK => ?_)
       refine goesR Try.func13 (by kernel_rfl) rfl #[.agg #[.slice Ao138 t196.length co138, .slice Ao139 t199.length co139], .agg #[.int .i64 t202, .bool t203, .int .i64 t204, .int .i64 t205, .int .i64 t206, .int .i64 t207]] (by rfl) rfl rfl ?_
       with_reducible refine (spec_Filter.calls _ _ t196 _ _ t199 t202 t203 t204 t205 t206 t207 t208 t209 t210 t211 t212 t213 _ ?side1 ?side2 ?side3 ?side4 A12.out).mono ?_
       (case side1 => repeat (first | exact (Kd.R_reads' HO198.out).2.2 | (with_reducible refine Kd.C_alloc ?_ _) | (with_reducible refine Kd.C_drewN ?_ _) | (with_reducible refine Kd.C_drew ?_)))
       (case side2 => exact (Kd.R_reads' HO198.out).2.1)
       (case side3 => repeat (first | exact (Kd.R_reads' HO201.out).2.2 | (with_reducible refine Kd.C_alloc ?_ _) | (with_reducible refine Kd.C_drewN ?_ _) | (with_reducible refine Kd.C_drew ?_)))
       (case side4 => exact (Kd.R_reads' HO201.out).2.1)
       rintro e w140 ⟨rfl, hb⟩
       refine ⟨_, rfl, ?_⟩
       have n0_ := nR HO198 hb
       have n1_ := nR HO201 hb
       have n2_ := nblk BK193 hb
       have n3_ := nblk BK194 hb
       have n4_ := nblk BK214 hb
       have n5_ := nbs HB hb
       clear HO198 HO201 BK193 BK194 BK214 HB
       have HO198 := n0_
       have HO201 := n1_
       have BK193 := n2_
       have BK194 := n3_
       have BK214 := n4_
       have HB := n5_
       clear n0_ n1_ n2_ n3_ n4_ n5_
       (try clear hb)
       refine hK.out _ _ (c2 BK193 (c6e BK194)) (fun hHeld => ?_)
       clear hK K
       refine norm_ (a' := ?_) ?_ ?_
       rotate_left
       ·show Act.put _ (some 18) _ = _
        simp only [Act.put, List.setIfInBounds_toArray, List.set_cons_zero, List.set_cons_succ, i64_w, i32_w]
        rfl
       exact norm_ (by simp only [putAll, Act.put, List.setIfInBounds_toArray, List.set_cons_zero, List.set_cons_succ]) (hCont (.slice Ao138 t196.length co138, .slice Ao139 t199.length co139, gb214) _ ⟨hHeld, (by (with_reducible repeat (first | apply Kd.R_alloc | apply Kd.R_drewN | apply Kd.R_drew)); exact Kd.R_mono HO198.out (fun _ hk => hk.2)), (nRo HO201), (nb BK193), (nb BK194), (nb BK214), GW214.out, GE214.out, NB193_214.out, NB214_193.out, NB194_214.out, NB214_194.out, (by repeat (first | (with_reducible first | exact HB.out | apply below_alloc | apply pw_below_drewN | apply below_drew1 | refine below_set ?_ GE193.out | refine below_set ?_ GE194.out | refine below_set ?_ GE214.out) | exact HB.out))⟩)
     ·skip
      refine box_step ?hg (N := 6) ?hd (cs := #[.int .i64 0, .bool false, .int .i64 0, .int .i64 0, .int .i64 0, .int .i64 0]) (t := 33) ?hr ?_; (case hd => rfl); (case hg => rfl); (case hr => first | (go_simp; done) | (go_simp; rfl))
      intro gb214 hg w136 hbox hb
      have n0_ := Aside0.mk (Kd.R_below (Kd.R_elderB (nRo HO198) gb214 (Nat.le_of_eq hg.symm)) hb)
      have n1_ := nR HO201 hb
      have n2_ := nblk BK193 hb
      have n3_ := nblk BK194 hb
      have n4_ := nbs HB hb
      have n5_ := Aside0.mk (hbox)
      have n6_ := nge HB hg
      have n7_ := nge HB hg
      have n8_ := nlt BK193 hg
      have n9_ := ngt BK193 hg
      have n10_ := nlt BK194 hg
      have n11_ := ngt BK194 hg
      clear HO198 HO201 BK193 BK194 HB
      have HO198 := n0_
      have HO201 := n1_
      have BK193 := n2_
      have BK194 := n3_
      have HB := n4_
      have BK214 := n5_
      have GW214 := n6_
      have GE214 := n7_
      have NB193_214 := n8_
      have NB214_193 := n9_
      have NB194_214 := n10_
      have NB214_194 := n11_
      clear n0_ n1_ n2_ n3_ n4_ n5_ n6_ n7_ n8_ n9_ n10_ n11_
      clear hb hbox hg
      refine hK.out _ _ (c2 BK193 (c6e BK194)) (fun hHeld => ?_)
      clear hK K
      refine norm_ (a' := ?_) ?_ ?_
      rotate_left
      ·show Act.put _ (some 6) _ = _
       simp only [Act.put, List.setIfInBounds_toArray, List.set_cons_zero, List.set_cons_succ, i64_w, i32_w]
       rfl
      refine one_ (i := 3) (N := some 17) #[true, true, true, true, false, true, false] rfl rfl (by kernel_rfl) (by decide) (fun K hK => ?_)
      refine goesR Try.func15 (by kernel_rfl) rfl #[.agg #[.int .i64 a1_0, .bool a1_1, .int .i64 a1_2, .int .i64 a1_3, .int .i64 a1_4, .int .i64 a1_5]] (by rfl) rfl rfl ?_
      with_reducible refine (laws_toWord.calls a1_0 a1_1 a1_2 a1_3 a1_4 a1_5 t202 t203 t204 t205 t206 t207 _ A11.out).mono ?_
      rintro e w137 ⟨rfl, hb⟩
      refine ⟨_, rfl, ?_⟩
      have n0_ := nR HO198 hb
      have n1_ := nR HO201 hb
      have n2_ := nblk BK193 hb
      have n3_ := nblk BK194 hb
      have n4_ := nblk BK214 hb
      have n5_ := nbs HB hb
      clear HO198 HO201 BK193 BK194 BK214 HB
      have HO198 := n0_
      have HO201 := n1_
      have BK193 := n2_
      have BK194 := n3_
      have BK214 := n4_
      have HB := n5_
      clear n0_ n1_ n2_ n3_ n4_ n5_
      (try clear hb)
      obtain ⟨Ao138, co138, eo138⟩ := Kd.R_slice HO198.out
      (first | subst eo138 | (injection eo138 with f1_ f2_ f3_; have f4_ := f1_.symm; have f5_ := f3_.symm; clear f1_ f2_ f3_; subst f4_; subst f5_))
      obtain ⟨Ao139, co139, eo139⟩ := Kd.R_slice HO201.out
      (first | subst eo139 | (injection eo139 with f1_ f2_ f3_; have f4_ := f1_.symm; have f5_ := f3_.symm; clear f1_ f2_ f3_; subst f4_; subst f5_))
      refine hK.out _ _ (c2 BK193 (c6e BK194)) (fun hHeld => ?_)
      clear hK K
      refine norm_ (a' := ?_) ?_ ?_
      rotate_left
      ·show Act.put _ (some 17) _ = _
       simp only [Act.put, List.setIfInBounds_toArray, List.set_cons_zero, List.set_cons_succ, i64_w, i32_w]
       rfl
      refine one_ (i := 4) (N := some 18) #[true, true, true, true, true, true, false] rfl rfl (by kernel_rfl) (by decide) (fun K hK => ?_)
      refine goesR Try.func13 (by kernel_rfl) rfl #[.agg #[.slice Ao138 t196.length co138, .slice Ao139 t199.length co139], .agg #[.int .i64 t202, .bool t203, .int .i64 t204, .int .i64 t205, .int .i64 t206, .int .i64 t207]] (by rfl) rfl rfl ?_
      with_reducible refine (spec_Filter.calls _ _ t196 _ _ t199 t202 t203 t204 t205 t206 t207 t208 t209 t210 t211 t212 t213 _ ?side1 ?side2 ?side3 ?side4 A12.out).mono ?_
      (case side1 => repeat (first | exact (Kd.R_reads' HO198.out).2.2 | (with_reducible refine Kd.C_alloc ?_ _) | (with_reducible refine Kd.C_drewN ?_ _) | (with_reducible refine Kd.C_drew ?_)))
      (case side2 => exact (Kd.R_reads' HO198.out).2.1)
      (case side3 => repeat (first | exact (Kd.R_reads' HO201.out).2.2 | (with_reducible refine Kd.C_alloc ?_ _) | (with_reducible refine Kd.C_drewN ?_ _) | (with_reducible refine Kd.C_drew ?_)))
      (case side4 => exact (Kd.R_reads' HO201.out).2.1)
      rintro e w140 ⟨rfl, hb⟩
      refine ⟨_, rfl, ?_⟩
      have n0_ := nR HO198 hb
      have n1_ := nR HO201 hb
      have n2_ := nblk BK193 hb
      have n3_ := nblk BK194 hb
      have n4_ := nblk BK214 hb
      have n5_ := nbs HB hb
      clear HO198 HO201 BK193 BK194 BK214 HB
      have HO198 := n0_
      have HO201 := n1_
      have BK193 := n2_
      have BK194 := n3_
      have BK214 := n4_
      have HB := n5_
      clear n0_ n1_ n2_ n3_ n4_ n5_
      (try clear hb)
      refine hK.out _ _ (c2 BK193 (c6e BK194)) (fun hHeld => ?_)
      clear hK K
      refine norm_ (a' := ?_) ?_ ?_
      rotate_left
      ·show Act.put _ (some 18) _ = _
       simp only [Act.put, List.setIfInBounds_toArray, List.set_cons_zero, List.set_cons_succ, i64_w, i32_w]
       rfl
      exact norm_ (by simp only [putAll, Act.put, List.setIfInBounds_toArray, List.set_cons_zero, List.set_cons_succ]) (hCont (.slice Ao138 t196.length co138, .slice Ao139 t199.length co139, gb214) _ ⟨hHeld, (by (with_reducible repeat (first | apply Kd.R_alloc | apply Kd.R_drewN | apply Kd.R_drew)); exact Kd.R_mono HO198.out (fun _ hk => hk.2)), (nRo HO201), (nb BK193), (nb BK194), (nb BK214), GW214.out, GE214.out, NB193_214.out, NB214_193.out, NB194_214.out, NB214_194.out, (by repeat (first | (with_reducible first | exact HB.out | apply below_alloc | apply pw_below_drewN | apply below_drew1 | refine below_set ?_ GE193.out | refine below_set ?_ GE194.out | refine below_set ?_ GE214.out) | exact HB.out))⟩)
    ·skip
     refine box_step ?hg (N := 6) ?hd (cs := #[.int .i64 0, .bool false, .int .i64 0, .int .i64 0, .int .i64 0, .int .i64 0]) (t := 33) ?hr ?_; (case hd => rfl); (case hg => rfl); (case hr => first | (go_simp; done) | (go_simp; rfl))
     intro gb214 hg w135 hbox hb
     have n0_ := nblk BK193 hb
     have n1_ := nblk BK194 hb
     have n2_ := nbs HB hb
     have n3_ := Aside0.mk (hbox)
     have n4_ := nge HB hg
     have n5_ := nge HB hg
     have n6_ := nlt BK193 hg
     have n7_ := ngt BK193 hg
     have n8_ := nlt BK194 hg
     have n9_ := ngt BK194 hg
     clear BK193 BK194 HB
     have BK193 := n0_
     have BK194 := n1_
     have HB := n2_
     have BK214 := n3_
     have GW214 := n4_
     have GE214 := n5_
     have NB193_214 := n6_
     have NB214_193 := n7_
     have NB194_214 := n8_
     have NB214_194 := n9_
     clear n0_ n1_ n2_ n3_ n4_ n5_ n6_ n7_ n8_ n9_
     clear hb hbox hg
     refine hK.out _ _ (c2 BK193 (c6e BK194)) (fun hHeld => ?_)
     clear hK K
     refine norm_ (a' := ?_) ?_ ?_
     rotate_left
     ·show Act.put _ (some 6) _ = _
      simp only [Act.put, List.setIfInBounds_toArray, List.set_cons_zero, List.set_cons_succ, i64_w, i32_w]
      rfl
     refine one_ (i := 1) (N := some 15) #[true, true, true, false, false, true, false] rfl rfl (by kernel_rfl) (by decide) (fun K hK => ?_)
     refine goesR Try.func14 (by kernel_rfl) rfl #[.agg #[.slice A0_0 l0_0.length c0_0, .slice A0_1 l0_1.length c0_1]] (by rfl) rfl rfl ?_
     with_reducible refine (laws_toMemory.calls k _ _ l0_0 _ _ l0_1 t196 t199 _ ?side1 ?side2 ?side3 ?side4 A10.out).mono ?_
     (case side1 => repeat (first | exact (Kd.C_below HR0_0.out HB.out) | (with_reducible refine Kd.C_alloc ?_ _) | (with_reducible refine Kd.C_drewN ?_ _) | (with_reducible refine Kd.C_drew ?_)))
     (case side2 => exact HC0_0.out)
     (case side3 => repeat (first | exact (Kd.C_below HR0_1.out HB.out) | (with_reducible refine Kd.C_alloc ?_ _) | (with_reducible refine Kd.C_drewN ?_ _) | (with_reducible refine Kd.C_drew ?_)))
     (case side4 => exact HC0_1.out)
     rintro e w136 ⟨v197, v200, rfl, ho0, ho1, hb⟩
     refine ⟨_, rfl, ?_⟩
     have n0_ := Aside0.mk (Kd.R_lower (Kd.R_newB ho0 (g := gb214) (o := .cells #[.int .i64 0, .bool false, .int .i64 0, .int .i64 0, .int .i64 0, .int .i64 0] 33 (0, 0)) (nb BK214)) (below_size (by repeat (first | (with_reducible first | exact HB.out | apply below_alloc | apply pw_below_drewN | apply below_drew1 | refine below_set ?_ GE193.out | refine below_set ?_ GE194.out | refine below_set ?_ GE214.out) | exact HB.out))))
     have n1_ := Aside0.mk (Kd.R_lower ho1 (below_size (by repeat (first | (with_reducible first | exact HB.out | apply below_alloc | apply pw_below_drewN | apply below_drew1 | refine below_set ?_ GE193.out | refine below_set ?_ GE194.out | refine below_set ?_ GE214.out) | exact HB.out))))
     have n2_ := nblk BK193 hb
     have n3_ := nblk BK194 hb
     have n4_ := nblk BK214 hb
     have n5_ := nbs HB hb
     clear BK193 BK194 BK214 HB
     have HO198 := n0_
     have HO201 := n1_
     have BK193 := n2_
     have BK194 := n3_
     have BK214 := n4_
     have HB := n5_
     clear n0_ n1_ n2_ n3_ n4_ n5_
     (try clear hb)
     (try clear ho0)
     (try clear ho1)
     refine hK.out _ _ (c2 BK193 (c6e BK194)) (fun hHeld => ?_)
     clear hK K
     refine norm_ (a' := ?_) ?_ ?_
     rotate_left
     ·show Act.put _ (some 15) _ = _
      simp only [Act.put, List.setIfInBounds_toArray, List.set_cons_zero, List.set_cons_succ, i64_w, i32_w]
      rfl
     refine one_ (i := 3) (N := some 17) #[true, true, true, true, false, true, false] rfl rfl (by kernel_rfl) (by decide) (fun K hK => ?_)
     refine goesR Try.func15 (by kernel_rfl) rfl #[.agg #[.int .i64 a1_0, .bool a1_1, .int .i64 a1_2, .int .i64 a1_3, .int .i64 a1_4, .int .i64 a1_5]] (by rfl) rfl rfl ?_
     with_reducible refine (laws_toWord.calls a1_0 a1_1 a1_2 a1_3 a1_4 a1_5 t202 t203 t204 t205 t206 t207 _ A11.out).mono ?_
     rintro e w137 ⟨rfl, hb⟩
     refine ⟨_, rfl, ?_⟩
     have n0_ := nR HO198 hb
     have n1_ := nR HO201 hb
     have n2_ := nblk BK193 hb
     have n3_ := nblk BK194 hb
     have n4_ := nblk BK214 hb
     have n5_ := nbs HB hb
     clear HO198 HO201 BK193 BK194 BK214 HB
     have HO198 := n0_
     have HO201 := n1_
     have BK193 := n2_
     have BK194 := n3_
     have BK214 := n4_
     have HB := n5_
     clear n0_ n1_ n2_ n3_ n4_ n5_
     (try clear hb)
     obtain ⟨Ao138, co138, eo138⟩ := Kd.R_slice HO198.out
     (first | subst eo138 | (injection eo138 with f1_ f2_ f3_; have f4_ := f1_.symm; have f5_ := f3_.symm; clear f1_ f2_ f3_; subst f4_; subst f5_))
     obtain ⟨Ao139, co139, eo139⟩ := Kd.R_slice HO201.out
     (first | subst eo139 | (injection eo139 with f1_ f2_ f3_; have f4_ := f1_.symm; have f5_ := f3_.symm; clear f1_ f2_ f3_; subst f4_; subst f5_))
     refine hK.out _ _ (c2 BK193 (c6e BK194)) (fun hHeld => ?_)
     clear hK K
     refine norm_ (a' := ?_) ?_ ?_
     rotate_left
     ·show Act.put _ (some 17) _ = _
      simp only [Act.put, List.setIfInBounds_toArray, List.set_cons_zero, List.set_cons_succ, i64_w, i32_w]
      rfl
     refine one_ (i := 4) (N := some 18) #[true, true, true, true, true, true, false] rfl rfl (by kernel_rfl) (by decide) (fun K hK => ?_)
     refine goesR Try.func13 (by kernel_rfl) rfl #[.agg #[.slice Ao138 t196.length co138, .slice Ao139 t199.length co139], .agg #[.int .i64 t202, .bool t203, .int .i64 t204, .int .i64 t205, .int .i64 t206, .int .i64 t207]] (by rfl) rfl rfl ?_
     with_reducible refine (spec_Filter.calls _ _ t196 _ _ t199 t202 t203 t204 t205 t206 t207 t208 t209 t210 t211 t212 t213 _ ?side1 ?side2 ?side3 ?side4 A12.out).mono ?_
     (case side1 => repeat (first | exact (Kd.R_reads' HO198.out).2.2 | (with_reducible refine Kd.C_alloc ?_ _) | (with_reducible refine Kd.C_drewN ?_ _) | (with_reducible refine Kd.C_drew ?_)))
     (case side2 => exact (Kd.R_reads' HO198.out).2.1)
     (case side3 => repeat (first | exact (Kd.R_reads' HO201.out).2.2 | (with_reducible refine Kd.C_alloc ?_ _) | (with_reducible refine Kd.C_drewN ?_ _) | (with_reducible refine Kd.C_drew ?_)))
     (case side4 => exact (Kd.R_reads' HO201.out).2.1)
     rintro e w140 ⟨rfl, hb⟩
     refine ⟨_, rfl, ?_⟩
     have n0_ := nR HO198 hb
     have n1_ := nR HO201 hb
     have n2_ := nblk BK193 hb
     have n3_ := nblk BK194 hb
     have n4_ := nblk BK214 hb
     have n5_ := nbs HB hb
     clear HO198 HO201 BK193 BK194 BK214 HB
     have HO198 := n0_
     have HO201 := n1_
     have BK193 := n2_
     have BK194 := n3_
     have BK214 := n4_
     have HB := n5_
     clear n0_ n1_ n2_ n3_ n4_ n5_
     (try clear hb)
     refine hK.out _ _ (c2 BK193 (c6e BK194)) (fun hHeld => ?_)
     clear hK K
     refine norm_ (a' := ?_) ?_ ?_
     rotate_left
     ·show Act.put _ (some 18) _ = _
      simp only [Act.put, List.setIfInBounds_toArray, List.set_cons_zero, List.set_cons_succ, i64_w, i32_w]
      rfl
     exact norm_ (by simp only [putAll, Act.put, List.setIfInBounds_toArray, List.set_cons_zero, List.set_cons_succ]) (hCont (.slice Ao138 t196.length co138, .slice Ao139 t199.length co139, gb214) _ ⟨hHeld, (by (with_reducible repeat (first | apply Kd.R_alloc | apply Kd.R_drewN | apply Kd.R_drew)); exact Kd.R_mono HO198.out (fun _ hk => hk.2)), (nRo HO201), (nb BK193), (nb BK194), (nb BK214), GW214.out, GE214.out, NB193_214.out, NB214_193.out, NB194_214.out, NB214_194.out, (by repeat (first | (with_reducible first | exact HB.out | apply below_alloc | apply pw_below_drewN | apply below_drew1 | refine below_set ?_ GE193.out | refine below_set ?_ GE194.out | refine below_set ?_ GE214.out) | exact HB.out))⟩)
   rintro ⟨v197, v200, gb214⟩ w141 ⟨hS_, h0_, h1_, h2_, h3_, h4_, h5_, h6_, h7_, h8_, h9_, h10_, h11_⟩
   have n0_ : Aside0 (Kd.R k33 33 w141 w.heap.size (fun k_ => k_ ≠ gb214) v197 t196) := ⟨h0_⟩
   have n1_ : Aside0 (Kd.R Kd.bool 4 w141 w.heap.size (fun _ => True) v200 t199) := ⟨h1_⟩
   have n2_ : Aside0 (w141.heap[gb193]? = some (.cells #[.slice A0_0 l0_0.length c0_0, .slice A0_1 l0_1.length c0_1] 25 (0, 0))) := ⟨h2_⟩
   have n3_ : Aside0 (w141.heap[gb194]? = some (.cells #[.int .i64 a1_0, .bool a1_1, .int .i64 a1_2, .int .i64 a1_3, .int .i64 a1_4, .int .i64 a1_5] 29 (0, 0))) := ⟨h3_⟩
   have n4_ : Aside0 (w141.heap[gb214]? = some (.cells #[.int .i64 0, .bool false, .int .i64 0, .int .i64 0, .int .i64 0, .int .i64 0] 33 (0, 0))) := ⟨h4_⟩
   have n5_ : Aside0 (w.heap.size ≤ gb214) := ⟨h5_⟩
   have n6_ : Aside0 (w.heap.size ≤ gb214) := ⟨h6_⟩
   have n7_ : Aside0 (gb193 ≠ gb214) := ⟨h7_⟩
   have n8_ : Aside0 (gb214 ≠ gb193) := ⟨h8_⟩
   have n9_ : Aside0 (gb194 ≠ gb214) := ⟨h9_⟩
   have n10_ : Aside0 (gb214 ≠ gb194) := ⟨h10_⟩
   have n11_ : Aside0 (Below w.heap.size w w141) := ⟨h11_⟩
   clear BK193 BK194 HB
   clear h0_ h1_ h2_ h3_ h4_ h5_ h6_ h7_ h8_ h9_ h10_ h11_
   have HO198 := n0_
   have HO201 := n1_
   have BK193 := n2_
   have BK194 := n3_
   have BK214 := n4_
   have GW214 := n5_
   have GE214 := n6_
   have NB193_214 := n7_
   have NB214_193 := n8_
   have NB194_214 := n9_
   have NB214_194 := n10_
   have HB := n11_
   clear n0_ n1_ n2_ n3_ n4_ n5_ n6_ n7_ n8_ n9_ n10_ n11_
   have hHeld : w141.cell? ⟨gb193, 0, none⟩ = some (.slice A0_0 l0_0.length c0_0) ∧ w141.cell? ⟨gb193, 1, none⟩ = some (.slice A0_1 l0_1.length c0_1) ∧ w141.cell? ⟨gb194, 0, none⟩ = some (.int .i64 a1_0) ∧ w141.cell? ⟨gb194, 1, none⟩ = some (.bool a1_1) ∧ w141.cell? ⟨gb194, 2, none⟩ = some (.int .i64 a1_2) ∧ w141.cell? ⟨gb194, 3, none⟩ = some (.int .i64 a1_3) ∧ w141.cell? ⟨gb194, 4, none⟩ = some (.int .i64 a1_4) ∧ w141.cell? ⟨gb194, 5, none⟩ = some (.int .i64 a1_5) := hS_
   refine norm_ (a' := ?_) ?_ ?_
   rotate_left
   ·simp only [putAll, Act.put, List.setIfInBounds_toArray, List.set_cons_zero, List.set_cons_succ]
    rfl
   refine one_ (i := 6) (N := none) #[true, true, true, true, true, true, true] rfl rfl (by kernel_rfl) (by decide) (fun K hK => ?_)
   have hs142 : w141.cell? ⟨gb214, 0, none⟩ = some (.int .i64 0) := (blk_cell BK214.out 0).trans rfl
   have hfs142 := blk_frozen BK214.out 0
   have hns142_0 := NB193_214.out
   have hns142_1 := NB194_214.out
   have hms142_0 := NB214_193.out
   have hms142_1 := NB214_194.out
   have hs143 : w141.cell? ⟨gb214, 1, none⟩ = some (.bool false) := (blk_cell BK214.out 1).trans rfl
   have hfs143 := blk_frozen BK214.out 1
   have hns143_0 := NB193_214.out
   have hns143_1 := NB194_214.out
   have hms143_0 := NB214_193.out
   have hms143_1 := NB214_194.out
   have hs144 : w141.cell? ⟨gb214, 2, none⟩ = some (.int .i64 0) := (blk_cell BK214.out 2).trans rfl
   have hfs144 := blk_frozen BK214.out 2
   have hns144_0 := NB193_214.out
   have hns144_1 := NB194_214.out
   have hms144_0 := NB214_193.out
   have hms144_1 := NB214_194.out
   have hs145 : w141.cell? ⟨gb214, 3, none⟩ = some (.int .i64 0) := (blk_cell BK214.out 3).trans rfl
   have hfs145 := blk_frozen BK214.out 3
   have hns145_0 := NB193_214.out
   have hns145_1 := NB194_214.out
   have hms145_0 := NB214_193.out
   have hms145_1 := NB214_194.out
   have hs146 : w141.cell? ⟨gb214, 4, none⟩ = some (.int .i64 0) := (blk_cell BK214.out 4).trans rfl
   have hfs146 := blk_frozen BK214.out 4
   have hns146_0 := NB193_214.out
   have hns146_1 := NB194_214.out
   have hms146_0 := NB214_193.out
   have hms146_1 := NB214_194.out
   have hs147 : w141.cell? ⟨gb214, 5, none⟩ = some (.int .i64 0) := (blk_cell BK214.out 5).trans rfl
   have hfs147 := blk_frozen BK214.out 5
   have hns147_0 := NB193_214.out
   have hns147_1 := NB194_214.out
   have hms147_0 := NB214_193.out
   have hms147_1 := NB214_194.out
   refine skip_ (w1 := ?_) (by rfl) rfl ?_ ?_
   rotate_left
   ·go_simp
    rfl
   refine hK.out _ _ ⟨(g6 NB193_214.out hHeld.1), (g6 NB193_214.out hHeld.2.1), (g6 NB194_214.out hHeld.2.2.1), (g6 NB194_214.out hHeld.2.2.2.1), (g6 NB194_214.out hHeld.2.2.2.2.1), (g6 NB194_214.out hHeld.2.2.2.2.2.1), (g6 NB194_214.out hHeld.2.2.2.2.2.2.1), (g6 NB194_214.out hHeld.2.2.2.2.2.2.2)⟩ (fun hHeld => ?_)
   clear hK K
   refine done_ (by kernel_rfl) ?_
   have hnb148 := NB193_214.out
   have hnc148 := NB214_193.out
   have hcz149_0 : w141.cell? ⟨gb193, 0, none⟩ = some (.slice A0_0 l0_0.length c0_0) := (blk_cell BK193.out 0).trans rfl
   have hcz149_1 : w141.cell? ⟨gb193, 1, none⟩ = some (.slice A0_1 l0_1.length c0_1) := (blk_cell BK193.out 1).trans rfl
   have hfz149_0 := blk_frozen BK193.out 0
   have hfz149_1 := blk_frozen BK193.out 1
   try go_wp2_with (first | ((with_reducible refine gate_callee (f := 14) rfl ?_); refine goesM (some 20) rfl rfl Try.func14 (by kernel_rfl) rfl #[.agg #[.slice A0_0 l0_0.length c0_0, .slice A0_1 l0_1.length c0_1]] rfl ?_; (with_reducible refine (laws_toMemory.calls k _ _ l0_0 _ _ l0_1 t215 t218 _ ?side1 ?side2 ?side3 ?side4 A13.out).mono ?_); (case side1 => exact Kd.C_below HR0_0.out (by repeat (first | (with_reducible first | exact HB.out | apply below_alloc | apply pw_below_drewN | apply below_drew1 | refine below_set ?_ GE193.out | refine below_set ?_ GE194.out | refine below_set ?_ GE214.out) | exact HB.out))); (case side2 => exact HC0_0.out); (case side3 => exact Kd.C_below HR0_1.out (by repeat (first | (with_reducible first | exact HB.out | apply below_alloc | apply pw_below_drewN | apply below_drew1 | refine below_set ?_ GE193.out | refine below_set ?_ GE194.out | refine below_set ?_ GE214.out) | exact HB.out))); (case side4 => exact HC0_1.out); rintro e w150 ⟨v216, v219, rfl, ho0, ho1, hb⟩; refine ⟨_, rfl, ?_⟩; have n0_ := Aside0.mk (Kd.R_elder' (by (with_reducible repeat (first | apply Kd.R_alloc | apply Kd.R_drewN | apply Kd.R_drew)); exact (f6 (Kd.R_mono HO198.out (fun k_ hk => (⟨hk, hk⟩ : _ ∧ k_ ≠ gb214))))) (Kd.R_base ho0) hb); have n1_ := Aside0.mk (Kd.R_elder' (by (with_reducible repeat (first | apply Kd.R_alloc | apply Kd.R_drewN | apply Kd.R_drew)); exact (f6 (Kd.R_types HO201.out BK214.out (by decide)))) (Kd.R_base ho1) hb); have n2_ := Aside0.mk (Kd.R_lower (Kd.R_newB (Kd.R_new' ho0 (Kd.R_lt (by (with_reducible repeat (first | apply Kd.R_alloc | apply Kd.R_drewN | apply Kd.R_drew)); exact (f6 (Kd.R_mono HO198.out (fun k_ hk => (⟨hk, hk⟩ : _ ∧ k_ ≠ gb214))))))) (g := gb214) (o := .cells #[.int .i64 t208, .bool t209, .int .i64 t210, .int .i64 t211, .int .i64 t212, .int .i64 t213] 33 (0, 0)) (by (with_reducible repeat (first | refine blk_drewN ?_ _ | refine blk_drew ?_ | refine blk_alloc ?_ _)); refine blk_put (cs := #[.int .i64 t208, .bool t209, .int .i64 t210, .int .i64 t211, .int .i64 t212, .int .i64 0]) ?_ 5 _ rfl; (with_reducible repeat (first | refine blk_drewN ?_ _ | refine blk_drew ?_ | refine blk_alloc ?_ _)); refine blk_put (cs := #[.int .i64 t208, .bool t209, .int .i64 t210, .int .i64 t211, .int .i64 0, .int .i64 0]) ?_ 4 _ rfl; (with_reducible repeat (first | refine blk_drewN ?_ _ | refine blk_drew ?_ | refine blk_alloc ?_ _)); refine blk_put (cs := #[.int .i64 t208, .bool t209, .int .i64 t210, .int .i64 0, .int .i64 0, .int .i64 0]) ?_ 3 _ rfl; (with_reducible repeat (first | refine blk_drewN ?_ _ | refine blk_drew ?_ | refine blk_alloc ?_ _)); refine blk_put (cs := #[.int .i64 t208, .bool t209, .int .i64 0, .int .i64 0, .int .i64 0, .int .i64 0]) ?_ 2 _ rfl; (with_reducible repeat (first | refine blk_drewN ?_ _ | refine blk_drew ?_ | refine blk_alloc ?_ _)); refine blk_put (cs := #[.int .i64 t208, .bool false, .int .i64 0, .int .i64 0, .int .i64 0, .int .i64 0]) ?_ 1 _ rfl; (with_reducible repeat (first | refine blk_drewN ?_ _ | refine blk_drew ?_ | refine blk_alloc ?_ _)); refine blk_put (cs := #[.int .i64 0, .bool false, .int .i64 0, .int .i64 0, .int .i64 0, .int .i64 0]) ?_ 0 _ rfl; (with_reducible repeat (first | refine blk_drewN ?_ _ | refine blk_drew ?_ | refine blk_alloc ?_ _)); exact BK214.out)) (below_size (by repeat (first | (with_reducible first | exact HB.out | apply below_alloc | apply pw_below_drewN | apply below_drew1 | refine below_set ?_ GE193.out | refine below_set ?_ GE194.out | refine below_set ?_ GE214.out) | exact HB.out)))); have n3_ := Aside0.mk (Kd.R_lower (Kd.R_new' ho1 (Kd.R_lt (by (with_reducible repeat (first | apply Kd.R_alloc | apply Kd.R_drewN | apply Kd.R_drew)); exact (f6 (Kd.R_types HO201.out BK214.out (by decide)))))) (below_size (by repeat (first | (with_reducible first | exact HB.out | apply below_alloc | apply pw_below_drewN | apply below_drew1 | refine below_set ?_ GE193.out | refine below_set ?_ GE194.out | refine below_set ?_ GE214.out) | exact HB.out)))); have n4_ := nblk BK193 hb; have n5_ := nblk BK194 hb; have n6_ := Aside0.mk (blk_below (g := gb214) (o := .cells #[.int .i64 t208, .bool t209, .int .i64 t210, .int .i64 t211, .int .i64 t212, .int .i64 t213] 33 (0, 0)) (by (with_reducible repeat (first | refine blk_drewN ?_ _ | refine blk_drew ?_ | refine blk_alloc ?_ _)); refine blk_put (cs := #[.int .i64 t208, .bool t209, .int .i64 t210, .int .i64 t211, .int .i64 t212, .int .i64 0]) ?_ 5 _ rfl; (with_reducible repeat (first | refine blk_drewN ?_ _ | refine blk_drew ?_ | refine blk_alloc ?_ _)); refine blk_put (cs := #[.int .i64 t208, .bool t209, .int .i64 t210, .int .i64 t211, .int .i64 0, .int .i64 0]) ?_ 4 _ rfl; (with_reducible repeat (first | refine blk_drewN ?_ _ | refine blk_drew ?_ | refine blk_alloc ?_ _)); refine blk_put (cs := #[.int .i64 t208, .bool t209, .int .i64 t210, .int .i64 0, .int .i64 0, .int .i64 0]) ?_ 3 _ rfl; (with_reducible repeat (first | refine blk_drewN ?_ _ | refine blk_drew ?_ | refine blk_alloc ?_ _)); refine blk_put (cs := #[.int .i64 t208, .bool t209, .int .i64 0, .int .i64 0, .int .i64 0, .int .i64 0]) ?_ 2 _ rfl; (with_reducible repeat (first | refine blk_drewN ?_ _ | refine blk_drew ?_ | refine blk_alloc ?_ _)); refine blk_put (cs := #[.int .i64 t208, .bool false, .int .i64 0, .int .i64 0, .int .i64 0, .int .i64 0]) ?_ 1 _ rfl; (with_reducible repeat (first | refine blk_drewN ?_ _ | refine blk_drew ?_ | refine blk_alloc ?_ _)); refine blk_put (cs := #[.int .i64 0, .bool false, .int .i64 0, .int .i64 0, .int .i64 0, .int .i64 0]) ?_ 0 _ rfl; (with_reducible repeat (first | refine blk_drewN ?_ _ | refine blk_drew ?_ | refine blk_alloc ?_ _)); exact BK214.out) hb); have n7_ := nbs HB hb; clear HO198 HO201 BK193 BK194 BK214 HB; have HO198 := n0_; have HO201 := n1_; have HO217 := n2_; have HO220 := n3_; have BK193 := n4_; have BK194 := n5_; have BK214 := n6_; have HB := n7_; clear n0_ n1_ n2_ n3_ n4_ n5_ n6_ n7_; (try clear hb); (try clear ho0); (try clear ho1)) | ((with_reducible refine gate_dst (N := 7) rfl ?_); refine box_event ?hg (N := 7) ?hd (cs := #[.slice none 0 0, .slice none 0 0]) (t := 37) ?hr ?_; (case hd => rfl); (case hg => rfl); (case hr => first | (go_simp; done) | (go_simp; rfl)); intro gb221 hg w151 hbox hb; have n0_ := nR HO198 hb; have n1_ := nR HO201 hb; have n2_ := nR HO217 hb; have n3_ := nR HO220 hb; have n4_ := nblk BK193 hb; have n5_ := nblk BK194 hb; have n6_ := nblk BK214 hb; have n7_ := nbs HB hb; have n8_ := Aside0.mk (hbox); have n9_ := nge HB hg; have n10_ := nge HB hg; have n11_ := nlt BK193 hg; have n12_ := ngt BK193 hg; have n13_ := nlt BK194 hg; have n14_ := ngt BK194 hg; have n15_ := nlt BK214 hg; have n16_ := ngt BK214 hg; clear HO198 HO201 HO217 HO220 BK193 BK194 BK214 HB; have HO198 := n0_; have HO201 := n1_; have HO217 := n2_; have HO220 := n3_; have BK193 := n4_; have BK194 := n5_; have BK214 := n6_; have HB := n7_; have BK221 := n8_; have GW221 := n9_; have GE221 := n10_; have NB193_221 := n11_; have NB221_193 := n12_; have NB194_221 := n13_; have NB221_194 := n14_; have NB214_221 := n15_; have NB221_214 := n16_; clear n0_ n1_ n2_ n3_ n4_ n5_ n6_ n7_ n8_ n9_ n10_ n11_ n12_ n13_ n14_ n15_ n16_; clear hb hbox hg; obtain ⟨Ao152, co152, eo152⟩ := Kd.R_slice HO217.out; subst eo152; have hnb153 := NB221_193.out; have hnc153 := NB193_221.out; have hnb154 := NB221_194.out; have hnc154 := NB194_221.out; have hnb155 := NB221_214.out; have hnc155 := NB214_221.out; have hcz156_0 : w151.cell? ⟨gb221, 0, none⟩ = some (.slice none 0 0) := (blk_cell BK221.out 0).trans rfl; have hcz156_1 : w151.cell? ⟨gb221, 1, none⟩ = some (.slice none 0 0) := (blk_cell BK221.out 1).trans rfl; have hfz156_0 := blk_frozen BK221.out 0; have hfz156_1 := blk_frozen BK221.out 1; obtain ⟨Ao157, co157, eo157⟩ := Kd.R_slice HO220.out; subst eo157))
   have n0_ : Aside0 (Kd.R k33 33 ((w151.setCell ⟨gb221, 0, none⟩ (.slice Ao152 t215.length co152)).setCell ⟨gb221, 1, none⟩ (.slice Ao157 t218.length co157)) w.heap.size (fun k_ => some k_ ≠ (.slice Ao152 t215.length co152 : Value).ownBlock ∧ k_ ≠ gb214) v197 t196) := ⟨by (with_reducible repeat (first | apply Kd.R_alloc | apply Kd.R_drewN | apply Kd.R_drew)); exact Kd.R_mono (Kd.R_far (p := ⟨gb221, 1, none⟩) (Kd.R_far (p := ⟨gb221, 0, none⟩) (Kd.R_types HO198.out BK221.out (by decide)) (fun _ hk => hk.2) (.slice Ao152 t215.length co152)) (fun _ hk => hk.2) (.slice Ao157 t218.length co157)) (fun _ hk => ⟨hk.1.2, hk.1.1⟩)⟩
   have n1_ : Aside0 (Kd.R Kd.bool 4 ((w151.setCell ⟨gb221, 0, none⟩ (.slice Ao152 t215.length co152)).setCell ⟨gb221, 1, none⟩ (.slice Ao157 t218.length co157)) w.heap.size (fun k_ => some k_ ≠ (.slice Ao157 t218.length co157 : Value).ownBlock) v200 t199) := ⟨by (with_reducible repeat (first | apply Kd.R_alloc | apply Kd.R_drewN | apply Kd.R_drew)); exact Kd.R_mono (Kd.R_far (p := ⟨gb221, 1, none⟩) (Kd.R_far (p := ⟨gb221, 0, none⟩) (Kd.R_types HO201.out BK221.out (by decide)) (fun _ hk => hk.2) (.slice Ao152 t215.length co152)) (fun _ hk => hk.2) (.slice Ao157 t218.length co157)) (fun _ hk => hk.1.2)⟩
   have n2_ : Aside0 (Kd.R k33 33 ((w151.setCell ⟨gb221, 0, none⟩ (.slice Ao152 t215.length co152)).setCell ⟨gb221, 1, none⟩ (.slice Ao157 t218.length co157)) w.heap.size (fun k_ => some k_ ≠ (v197 : Value).ownBlock ∧ k_ ≠ gb214) (.slice Ao152 t215.length co152) t215) := ⟨by (with_reducible repeat (first | apply Kd.R_alloc | apply Kd.R_drewN | apply Kd.R_drew)); exact Kd.R_mono (Kd.R_far (p := ⟨gb221, 1, none⟩) (Kd.R_far (p := ⟨gb221, 0, none⟩) (Kd.R_types HO217.out BK221.out (by decide)) (fun _ hk => hk.2) (.slice Ao152 t215.length co152)) (fun _ hk => hk.2) (.slice Ao157 t218.length co157)) (fun _ hk => ⟨hk.1.1.2, hk.1.2⟩)⟩
   have n3_ : Aside0 (Kd.R Kd.bool 4 ((w151.setCell ⟨gb221, 0, none⟩ (.slice Ao152 t215.length co152)).setCell ⟨gb221, 1, none⟩ (.slice Ao157 t218.length co157)) w.heap.size (fun k_ => some k_ ≠ (v200 : Value).ownBlock) (.slice Ao157 t218.length co157) t218) := ⟨by (with_reducible repeat (first | apply Kd.R_alloc | apply Kd.R_drewN | apply Kd.R_drew)); exact Kd.R_mono (Kd.R_far (p := ⟨gb221, 1, none⟩) (Kd.R_far (p := ⟨gb221, 0, none⟩) (Kd.R_types HO220.out BK221.out (by decide)) (fun _ hk => hk.2) (.slice Ao152 t215.length co152)) (fun _ hk => hk.2) (.slice Ao157 t218.length co157)) (fun _ hk => hk.1.2)⟩
   have n4_ : Aside0 (((w151.setCell ⟨gb221, 0, none⟩ (.slice Ao152 t215.length co152)).setCell ⟨gb221, 1, none⟩ (.slice Ao157 t218.length co157)).heap[gb193]? = some (.cells #[.slice A0_0 l0_0.length c0_0, .slice A0_1 l0_1.length c0_1] 25 (0, 0))) := ⟨by (with_reducible repeat (first | refine blk_drewN ?_ _ | refine blk_drew ?_ | refine blk_alloc ?_ _)); refine blk_far ?_ NB193_221.out _; (with_reducible repeat (first | refine blk_drewN ?_ _ | refine blk_drew ?_ | refine blk_alloc ?_ _)); refine blk_far ?_ NB193_221.out _; (with_reducible repeat (first | refine blk_drewN ?_ _ | refine blk_drew ?_ | refine blk_alloc ?_ _)); exact BK193.out⟩
   have n5_ : Aside0 (((w151.setCell ⟨gb221, 0, none⟩ (.slice Ao152 t215.length co152)).setCell ⟨gb221, 1, none⟩ (.slice Ao157 t218.length co157)).heap[gb194]? = some (.cells #[.int .i64 a1_0, .bool a1_1, .int .i64 a1_2, .int .i64 a1_3, .int .i64 a1_4, .int .i64 a1_5] 29 (0, 0))) := ⟨by (with_reducible repeat (first | refine blk_drewN ?_ _ | refine blk_drew ?_ | refine blk_alloc ?_ _)); refine blk_far ?_ NB194_221.out _; (with_reducible repeat (first | refine blk_drewN ?_ _ | refine blk_drew ?_ | refine blk_alloc ?_ _)); refine blk_far ?_ NB194_221.out _; (with_reducible repeat (first | refine blk_drewN ?_ _ | refine blk_drew ?_ | refine blk_alloc ?_ _)); exact BK194.out⟩
   have n6_ : Aside0 (((w151.setCell ⟨gb221, 0, none⟩ (.slice Ao152 t215.length co152)).setCell ⟨gb221, 1, none⟩ (.slice Ao157 t218.length co157)).heap[gb214]? = some (.cells #[.int .i64 t208, .bool t209, .int .i64 t210, .int .i64 t211, .int .i64 t212, .int .i64 t213] 33 (0, 0))) := ⟨by (with_reducible repeat (first | refine blk_drewN ?_ _ | refine blk_drew ?_ | refine blk_alloc ?_ _)); refine blk_far ?_ NB214_221.out _; (with_reducible repeat (first | refine blk_drewN ?_ _ | refine blk_drew ?_ | refine blk_alloc ?_ _)); refine blk_far ?_ NB214_221.out _; (with_reducible repeat (first | refine blk_drewN ?_ _ | refine blk_drew ?_ | refine blk_alloc ?_ _)); exact BK214.out⟩
   have n7_ : Aside0 (((w151.setCell ⟨gb221, 0, none⟩ (.slice Ao152 t215.length co152)).setCell ⟨gb221, 1, none⟩ (.slice Ao157 t218.length co157)).heap[gb221]? = some (.cells #[.slice Ao152 t215.length co152, .slice Ao157 t218.length co157] 37 (0, 0))) := ⟨by (with_reducible repeat (first | refine blk_drewN ?_ _ | refine blk_drew ?_ | refine blk_alloc ?_ _)); refine blk_put (cs := #[.slice Ao152 t215.length co152, .slice none 0 0]) ?_ 1 _ rfl; (with_reducible repeat (first | refine blk_drewN ?_ _ | refine blk_drew ?_ | refine blk_alloc ?_ _)); refine blk_put (cs := #[.slice none 0 0, .slice none 0 0]) ?_ 0 _ rfl; (with_reducible repeat (first | refine blk_drewN ?_ _ | refine blk_drew ?_ | refine blk_alloc ?_ _)); exact BK221.out⟩
   have n8_ : Aside0 (Below w.heap.size w ((w151.setCell ⟨gb221, 0, none⟩ (.slice Ao152 t215.length co152)).setCell ⟨gb221, 1, none⟩ (.slice Ao157 t218.length co157))) := ⟨by repeat (first | (with_reducible first | exact HB.out | apply below_alloc | apply pw_below_drewN | apply below_drew1 | refine below_set ?_ GE193.out | refine below_set ?_ GE194.out | refine below_set ?_ GE214.out | refine below_set ?_ GE221.out) | exact HB.out)⟩
   (try clear HO198)
   (try clear HO201)
   (try clear HO217)
   (try clear HO220)
   (try clear BK193)
   (try clear BK194)
   (try clear BK214)
   (try clear BK221)
   (try clear HB)
   generalize ((w151.setCell ⟨gb221, 0, none⟩ (.slice Ao152 t215.length co152)).setCell ⟨gb221, 1, none⟩ (.slice Ao157 t218.length co157)) = w158 at n0_ n1_ n2_ n3_ n4_ n5_ n6_ n7_ n8_ ⊢
   have HO198 := n0_
   have HO201 := n1_
   have HO217 := n2_
   have HO220 := n3_
   have BK193 := n4_
   have BK194 := n5_
   have BK214 := n6_
   have BK221 := n7_
   have HB := n8_
   clear n0_ n1_ n2_ n3_ n4_ n5_ n6_ n7_ n8_
   have n0_ := Aside0.mk (Kd.R_drew HO198.out)
   have n1_ := Aside0.mk (Kd.R_drew HO201.out)
   have n2_ := Aside0.mk (Kd.R_drew HO217.out)
   have n3_ := Aside0.mk (Kd.R_drew HO220.out)
   have n4_ := Aside0.mk (blk_drew BK193.out)
   have n5_ := Aside0.mk (blk_drew BK194.out)
   have n6_ := Aside0.mk (blk_drew BK214.out)
   have n7_ := Aside0.mk (blk_drew BK221.out)
   have n8_ := Aside0.mk (below_drew1 HB.out)
   clear HO198 HO201 HO217 HO220 BK193 BK194 BK214 BK221 HB
   have HO198 := n0_
   have HO201 := n1_
   have HO217 := n2_
   have HO220 := n3_
   have BK193 := n4_
   have BK194 := n5_
   have BK214 := n6_
   have BK221 := n7_
   have HB := n8_
   clear n0_ n1_ n2_ n3_ n4_ n5_ n6_ n7_ n8_
   refine start_ (n := 6) (S := fun w' => w'.cell? ⟨gb221, 0, none⟩ = some (.slice Ao152 t215.length co152) ∧ w'.cell? ⟨gb221, 1, none⟩ = some (.slice Ao157 t218.length co157) ∧ w'.cell? ⟨gb194, 0, none⟩ = some (.int .i64 a1_0) ∧ w'.cell? ⟨gb194, 1, none⟩ = some (.bool a1_1) ∧ w'.cell? ⟨gb194, 2, none⟩ = some (.int .i64 a1_2) ∧ w'.cell? ⟨gb194, 3, none⟩ = some (.int .i64 a1_3) ∧ w'.cell? ⟨gb194, 4, none⟩ = some (.int .i64 a1_4) ∧ w'.cell? ⟨gb194, 5, none⟩ = some (.int .i64 a1_5)) (ds := []) #[false, false, false, false, false, false] (by kernel_rfl) rfl rfl (c2 BK221 (c6e BK194)) (fun hHeld => ?_)
   generalize w158.drew = w159 at HO198 HO201 HO217 HO220 BK193 BK194 BK214 BK221 HB hHeld ⊢
   refine take_ (i := 0) (N := some 21) (v := ?_) (a' := ?_) #[true, false, false, false, false, false] rfl rfl (by kernel_rfl) (fun _ _ _ h => h) (Or.inl ⟨by rfl, ?_⟩) hHeld ?_ ?_
   rotate_left
   ·rintro w' ⟨s0, s1, s2, s3, s4, s5, s6, s7⟩
    go_simp
    with_reducible rfl
   rotate_left
   ·simp only [Act.put, List.setIfInBounds_toArray, List.set_cons_zero, List.set_cons_succ, i64_w, i32_w]
    rfl
   refine take_ (i := 1) (N := some 22) (v := ?_) (a' := ?_) #[true, true, false, false, false, false] rfl rfl (by kernel_rfl) (fun _ _ _ h => h) (Or.inl ⟨by rfl, ?_⟩) hHeld ?_ ?_
   rotate_left
   ·rintro w' ⟨s0, s1, s2, s3, s4, s5, s6, s7⟩
    go_simp
    with_reducible rfl
   rotate_left
   ·simp only [Act.put, List.setIfInBounds_toArray, List.set_cons_zero, List.set_cons_succ, i64_w, i32_w]
    rfl
   refine join_ (σ := Nat) 1 #[true, true, true, true, true, false] (fun s_ => [(23, .agg #[.int .i64 t222, .bool t223, .int .i64 t224, .int .i64 t225, .int .i64 t226, .int .i64 t227]), (24, .agg #[.int .i64 t228, .bool t229, .int .i64 t230, .int .i64 t231, .int .i64 t232, .int .i64 t233]), (8, .pointer (some ⟨s_, 0, none⟩))]) (fun s_ w' => (w'.cell? ⟨gb221, 0, none⟩ = some (.slice Ao152 t215.length co152) ∧ w'.cell? ⟨gb221, 1, none⟩ = some (.slice Ao157 t218.length co157) ∧ w'.cell? ⟨gb194, 0, none⟩ = some (.int .i64 a1_0) ∧ w'.cell? ⟨gb194, 1, none⟩ = some (.bool a1_1) ∧ w'.cell? ⟨gb194, 2, none⟩ = some (.int .i64 a1_2) ∧ w'.cell? ⟨gb194, 3, none⟩ = some (.int .i64 a1_3) ∧ w'.cell? ⟨gb194, 4, none⟩ = some (.int .i64 a1_4) ∧ w'.cell? ⟨gb194, 5, none⟩ = some (.int .i64 a1_5)) ∧ (Kd.R k33 33 w' w.heap.size (fun k_ => some k_ ≠ (.slice Ao152 t215.length co152 : Value).ownBlock ∧ k_ ≠ gb214 ∧ k_ ≠ s_) v197 t196) ∧ (Kd.R Kd.bool 4 w' w.heap.size (fun k_ => some k_ ≠ (.slice Ao157 t218.length co157 : Value).ownBlock) v200 t199) ∧ (Kd.R k33 33 w' w.heap.size (fun k_ => some k_ ≠ (v197 : Value).ownBlock ∧ k_ ≠ gb214 ∧ k_ ≠ s_) (.slice Ao152 t215.length co152) t215) ∧ (Kd.R Kd.bool 4 w' w.heap.size (fun k_ => some k_ ≠ (v200 : Value).ownBlock) (.slice Ao157 t218.length co157) t218) ∧ (w'.heap[gb193]? = some (.cells #[.slice A0_0 l0_0.length c0_0, .slice A0_1 l0_1.length c0_1] 25 (0, 0))) ∧ (w'.heap[gb194]? = some (.cells #[.int .i64 a1_0, .bool a1_1, .int .i64 a1_2, .int .i64 a1_3, .int .i64 a1_4, .int .i64 a1_5] 29 (0, 0))) ∧ (w'.heap[gb214]? = some (.cells #[.int .i64 t208, .bool t209, .int .i64 t210, .int .i64 t211, .int .i64 t212, .int .i64 t213] 33 (0, 0))) ∧ (w'.heap[gb221]? = some (.cells #[.slice Ao152 t215.length co152, .slice Ao157 t218.length co157] 37 (0, 0))) ∧ (w'.heap[s_]? = some (.cells #[.int .i64 0, .bool false, .int .i64 0, .int .i64 0, .int .i64 0, .int .i64 0] 33 (0, 0))) ∧ (w.heap.size ≤ s_) ∧ (w.heap.size ≤ s_) ∧ (gb193 ≠ s_) ∧ (s_ ≠ gb193) ∧ (gb194 ≠ s_) ∧ (s_ ≠ gb194) ∧ (gb214 ≠ s_) ∧ (s_ ≠ gb214) ∧ (gb221 ≠ s_) ∧ (s_ ≠ gb221) ∧ (Below w.heap.size w w')) ?_ ?_
   rotate_left
   ·intro hCont
    refine two_ (i := 2) (j := 4) (Ni := some 23) (Nj := some 8) #[true, true, true, false, false, false] #[true, true, false, false, true, false] rfl rfl rfl rfl (by kernel_rfl) (by decide) (by decide) (fun K hK => ?_) (fun K hK => ?_)
    ·skip
     refine goesR Try.func15 (by kernel_rfl) rfl #[.agg #[.int .i64 a1_0, .bool a1_1, .int .i64 a1_2, .int .i64 a1_3, .int .i64 a1_4, .int .i64 a1_5]] (by rfl) rfl rfl ?_
     with_reducible refine (laws_toWord.calls a1_0 a1_1 a1_2 a1_3 a1_4 a1_5 t222 t223 t224 t225 t226 t227 _ A14.out).mono ?_
     rintro e w160 ⟨rfl, hb⟩
     refine ⟨_, rfl, ?_⟩
     have n0_ := nR HO198 hb
     have n1_ := nR HO201 hb
     have n2_ := nR HO217 hb
     have n3_ := nR HO220 hb
     have n4_ := nblk BK193 hb
     have n5_ := nblk BK194 hb
     have n6_ := nblk BK214 hb
     have n7_ := nblk BK221 hb
     have n8_ := nbs HB hb
     clear HO198 HO201 HO217 HO220 BK193 BK194 BK214 BK221 HB
     have HO198 := n0_
     have HO201 := n1_
     have HO217 := n2_
     have HO220 := n3_
     have BK193 := n4_
     have BK194 := n5_
     have BK214 := n6_
     have BK221 := n7_
     have HB := n8_
     clear n0_ n1_ n2_ n3_ n4_ n5_ n6_ n7_ n8_
     (try clear hb)
     refine hK.out _ _ (c2 BK221 (c6e BK194)) (fun hHeld => ?_)
     clear hK K
     refine norm_ (a' := ?_) ?_ ?_
     rotate_left
     ·show Act.put _ (some 23) _ = _
      simp only [Act.put, List.setIfInBounds_toArray, List.set_cons_zero, List.set_cons_succ, i64_w, i32_w]
      rfl
     refine two_ (i := 3) (j := 4) (Ni := some 24) (Nj := some 8) #[true, true, true, true, false, false] #[true, true, true, false, true, false] rfl rfl rfl rfl (by kernel_rfl) (by decide) (by decide) (fun K hK => ?_) (fun K hK => ?_)
     ·skip
      refine goesR Try.func16 (by kernel_rfl) rfl #[.agg #[.slice Ao152 t215.length co152, .slice Ao157 t218.length co157], .agg #[.int .i64 t222, .bool t223, .int .i64 t224, .int .i64 t225, .int .i64 t226, .int .i64 t227]] (by rfl) rfl rfl ?_
      with_reducible refine (impl_Filter.calls _ _ t215 _ _ t218 t222 t223 t224 t225 t226 t227 t228 t229 t230 t231 t232 t233 _ ?side1 ?side2 ?side3 ?side4 A15.out).mono ?_
      (case side1 => repeat (first | exact (Kd.R_reads' HO217.out).2.2 | (with_reducible refine Kd.C_alloc ?_ _) | (with_reducible refine Kd.C_drewN ?_ _) | (with_reducible refine Kd.C_drew ?_)))
      (case side2 => exact (Kd.R_reads' HO217.out).2.1)
      (case side3 => repeat (first | exact (Kd.R_reads' HO220.out).2.2 | (with_reducible refine Kd.C_alloc ?_ _) | (with_reducible refine Kd.C_drewN ?_ _) | (with_reducible refine Kd.C_drew ?_)))
      (case side4 => exact (Kd.R_reads' HO220.out).2.1)
      rintro e w161 ⟨rfl, hb⟩
      refine ⟨_, rfl, ?_⟩
      have n0_ := nR HO198 hb
      have n1_ := nR HO201 hb
      have n2_ := nR HO217 hb
      have n3_ := nR HO220 hb
      have n4_ := nblk BK193 hb
      have n5_ := nblk BK194 hb
      have n6_ := nblk BK214 hb
      have n7_ := nblk BK221 hb
      have n8_ := nbs HB hb
      clear HO198 HO201 HO217 HO220 BK193 BK194 BK214 BK221 HB
      have HO198 := n0_
      have HO201 := n1_
      have HO217 := n2_
      have HO220 := n3_
      have BK193 := n4_
      have BK194 := n5_
      have BK214 := n6_
      have BK221 := n7_
      have HB := n8_
      clear n0_ n1_ n2_ n3_ n4_ n5_ n6_ n7_ n8_
      (try clear hb)
      refine hK.out _ _ (c2 BK221 (c6e BK194)) (fun hHeld => ?_)
      clear hK K
      refine norm_ (a' := ?_) ?_ ?_
      rotate_left
      ·show Act.put _ (some 24) _ = _
       simp only [Act.put, List.setIfInBounds_toArray, List.set_cons_zero, List.set_cons_succ, i64_w, i32_w]
       rfl
      refine one_ (i := 4) (N := some 8) #[true, true, true, true, true, false] rfl rfl (by kernel_rfl) (by decide) (fun K hK => ?_)
      refine box_step ?hg (N := 8) ?hd (cs := #[.int .i64 0, .bool false, .int .i64 0, .int .i64 0, .int .i64 0, .int .i64 0]) (t := 33) ?hr ?_; (case hd => rfl); (case hg => rfl); (case hr => first | (go_simp; done) | (go_simp; rfl))
      intro gb234 hg w162 hbox hb
      have n0_ := Aside0.mk (Kd.R_below (Kd.R_elderB (nRo HO198) gb234 (Nat.le_of_eq hg.symm)) hb)
      have n1_ := nR HO201 hb
      have n2_ := Aside0.mk (Kd.R_below (Kd.R_elderB (nRo HO217) gb234 (Nat.le_of_eq hg.symm)) hb)
      have n3_ := nR HO220 hb
      have n4_ := nblk BK193 hb
      have n5_ := nblk BK194 hb
      have n6_ := nblk BK214 hb
      have n7_ := nblk BK221 hb
      have n8_ := nbs HB hb
      have n9_ := Aside0.mk (hbox)
      have n10_ := nge HB hg
      have n11_ := nge HB hg
      have n12_ := nlt BK193 hg
      have n13_ := ngt BK193 hg
      have n14_ := nlt BK194 hg
      have n15_ := ngt BK194 hg
      have n16_ := nlt BK214 hg
      have n17_ := ngt BK214 hg
      have n18_ := nlt BK221 hg
      have n19_ := ngt BK221 hg
      clear HO198 HO201 HO217 HO220 BK193 BK194 BK214 BK221 HB
      have HO198 := n0_
      have HO201 := n1_
      have HO217 := n2_
      have HO220 := n3_
      have BK193 := n4_
      have BK194 := n5_
      have BK214 := n6_
      have BK221 := n7_
      have HB := n8_
      have BK234 := n9_
      have GW234 := n10_
      have GE234 := n11_
      have NB193_234 := n12_
      have NB234_193 := n13_
      have NB194_234 := n14_
      have NB234_194 := n15_
      have NB214_234 := n16_
      have NB234_214 := n17_
      have NB221_234 := n18_
      have NB234_221 := n19_
      clear n0_ n1_ n2_ n3_ n4_ n5_ n6_ n7_ n8_ n9_ n10_ n11_ n12_ n13_ n14_ n15_ n16_ n17_ n18_ n19_
      clear hb hbox hg
      refine hK.out _ _ (c2 BK221 (c6e BK194)) (fun hHeld => ?_)
      clear hK K
      refine norm_ (a' := ?_) ?_ ?_
      rotate_left
      ·show Act.put _ (some 8) _ = _
       simp only [Act.put, List.setIfInBounds_toArray, List.set_cons_zero, List.set_cons_succ, i64_w, i32_w]
       rfl
      exact norm_ (by simp only [putAll, Act.put, List.setIfInBounds_toArray, List.set_cons_zero, List.set_cons_succ]) (hCont (gb234) _ ⟨hHeld, (by (with_reducible repeat (first | apply Kd.R_alloc | apply Kd.R_drewN | apply Kd.R_drew)); exact Kd.R_mono HO198.out (fun _ hk => ⟨hk.1.1, ⟨hk.1.2, hk.2⟩⟩)), (nRo HO201), (by (with_reducible repeat (first | apply Kd.R_alloc | apply Kd.R_drewN | apply Kd.R_drew)); exact Kd.R_mono HO217.out (fun _ hk => ⟨hk.1.1, ⟨hk.1.2, hk.2⟩⟩)), (nRo HO220), (nb BK193), (nb BK194), (nb BK214), (nb BK221), (nb BK234), GW234.out, GE234.out, NB193_234.out, NB234_193.out, NB194_234.out, NB234_194.out, NB214_234.out, NB234_214.out, NB221_234.out, NB234_221.out, (by repeat (first | (with_reducible first | exact HB.out | apply below_alloc | apply pw_below_drewN | apply below_drew1 | refine below_set ?_ GE193.out | refine below_set ?_ GE194.out | refine below_set ?_ GE214.out | refine below_set ?_ GE221.out | refine below_set ?_ GE234.out) | exact HB.out))⟩)
     ·skip
      refine box_step ?hg (N := 8) ?hd (cs := #[.int .i64 0, .bool false, .int .i64 0, .int .i64 0, .int .i64 0, .int .i64 0]) (t := 33) ?hr ?_; (case hd => rfl); (case hg => rfl); (case hr => first | (go_simp; done) | (go_simp; rfl))
      intro gb234 hg w161 hbox hb
      have n0_ := Aside0.mk (Kd.R_below (Kd.R_elderB (nRo HO198) gb234 (Nat.le_of_eq hg.symm)) hb)
      have n1_ := nR HO201 hb
      have n2_ := Aside0.mk (Kd.R_below (Kd.R_elderB (nRo HO217) gb234 (Nat.le_of_eq hg.symm)) hb)
      have n3_ := nR HO220 hb
      have n4_ := nblk BK193 hb
      have n5_ := nblk BK194 hb
      have n6_ := nblk BK214 hb
      have n7_ := nblk BK221 hb
      have n8_ := nbs HB hb
      have n9_ := Aside0.mk (hbox)
      have n10_ := nge HB hg
      have n11_ := nge HB hg
      have n12_ := nlt BK193 hg
      have n13_ := ngt BK193 hg
      have n14_ := nlt BK194 hg
      have n15_ := ngt BK194 hg
      have n16_ := nlt BK214 hg
      have n17_ := ngt BK214 hg
      have n18_ := nlt BK221 hg
      have n19_ := ngt BK221 hg
      clear HO198 HO201 HO217 HO220 BK193 BK194 BK214 BK221 HB
      have HO198 := n0_
      have HO201 := n1_
      have HO217 := n2_
      have HO220 := n3_
      have BK193 := n4_
      have BK194 := n5_
      have BK214 := n6_
      have BK221 := n7_
      have HB := n8_
      have BK234 := n9_
      have GW234 := n10_
      have GE234 := n11_
      have NB193_234 := n12_
      have NB234_193 := n13_
      have NB194_234 := n14_
      have NB234_194 := n15_
      have NB214_234 := n16_
      have NB234_214 := n17_
      have NB221_234 := n18_
      have NB234_221 := n19_
      clear n0_ n1_ n2_ n3_ n4_ n5_ n6_ n7_ n8_ n9_ n10_ n11_ n12_ n13_ n14_ n15_ n16_ n17_ n18_ n19_
      clear hb hbox hg
      refine hK.out _ _ (c2 BK221 (c6e BK194)) (fun hHeld => ?_)
      clear hK K
      refine norm_ (a' := ?_) ?_ ?_
      rotate_left
      ·show Act.put _ (some 8) _ = _
       simp only [Act.put, List.setIfInBounds_toArray, List.set_cons_zero, List.set_cons_succ, i64_w, i32_w]
       rfl
      refine one_ (i := 3) (N := some 24) #[true, true, true, true, true, false] rfl rfl (by kernel_rfl) (by decide) (fun K hK => ?_)
      refine goesR Try.func16 (by kernel_rfl) rfl #[.agg #[.slice Ao152 t215.length co152, .slice Ao157 t218.length co157], .agg #[.int .i64 t222, .bool t223, .int .i64 t224, .int .i64 t225, .int .i64 t226, .int .i64 t227]] (by rfl) rfl rfl ?_
      with_reducible refine (impl_Filter.calls _ _ t215 _ _ t218 t222 t223 t224 t225 t226 t227 t228 t229 t230 t231 t232 t233 _ ?side1 ?side2 ?side3 ?side4 A15.out).mono ?_
      (case side1 => repeat (first | exact (Kd.R_reads' HO217.out).2.2 | (with_reducible refine Kd.C_alloc ?_ _) | (with_reducible refine Kd.C_drewN ?_ _) | (with_reducible refine Kd.C_drew ?_)))
      (case side2 => exact (Kd.R_reads' HO217.out).2.1)
      (case side3 => repeat (first | exact (Kd.R_reads' HO220.out).2.2 | (with_reducible refine Kd.C_alloc ?_ _) | (with_reducible refine Kd.C_drewN ?_ _) | (with_reducible refine Kd.C_drew ?_)))
      (case side4 => exact (Kd.R_reads' HO220.out).2.1)
      rintro e w162 ⟨rfl, hb⟩
      refine ⟨_, rfl, ?_⟩
      have n0_ := nR HO198 hb
      have n1_ := nR HO201 hb
      have n2_ := nR HO217 hb
      have n3_ := nR HO220 hb
      have n4_ := nblk BK193 hb
      have n5_ := nblk BK194 hb
      have n6_ := nblk BK214 hb
      have n7_ := nblk BK221 hb
      have n8_ := nblk BK234 hb
      have n9_ := nbs HB hb
      clear HO198 HO201 HO217 HO220 BK193 BK194 BK214 BK221 BK234 HB
      have HO198 := n0_
      have HO201 := n1_
      have HO217 := n2_
      have HO220 := n3_
      have BK193 := n4_
      have BK194 := n5_
      have BK214 := n6_
      have BK221 := n7_
      have BK234 := n8_
      have HB := n9_
      clear n0_ n1_ n2_ n3_ n4_ n5_ n6_ n7_ n8_ n9_
      (try clear hb)
      refine hK.out _ _ (c2 BK221 (c6e BK194)) (fun hHeld => ?_)
      clear hK K
      refine norm_ (a' := ?_) ?_ ?_
      rotate_left
      ·show Act.put _ (some 24) _ = _
       simp only [Act.put, List.setIfInBounds_toArray, List.set_cons_zero, List.set_cons_succ, i64_w, i32_w]
       rfl
      exact norm_ (by simp only [putAll, Act.put, List.setIfInBounds_toArray, List.set_cons_zero, List.set_cons_succ]) (hCont (gb234) _ ⟨hHeld, (by (with_reducible repeat (first | apply Kd.R_alloc | apply Kd.R_drewN | apply Kd.R_drew)); exact Kd.R_mono HO198.out (fun _ hk => ⟨hk.1.1, ⟨hk.1.2, hk.2⟩⟩)), (nRo HO201), (by (with_reducible repeat (first | apply Kd.R_alloc | apply Kd.R_drewN | apply Kd.R_drew)); exact Kd.R_mono HO217.out (fun _ hk => ⟨hk.1.1, ⟨hk.1.2, hk.2⟩⟩)), (nRo HO220), (nb BK193), (nb BK194), (nb BK214), (nb BK221), (nb BK234), GW234.out, GE234.out, NB193_234.out, NB234_193.out, NB194_234.out, NB234_194.out, NB214_234.out, NB234_214.out, NB221_234.out, NB234_221.out, (by repeat (first | (with_reducible first | exact HB.out | apply below_alloc | apply pw_below_drewN | apply below_drew1 | refine below_set ?_ GE193.out | refine below_set ?_ GE194.out | refine below_set ?_ GE214.out | refine below_set ?_ GE221.out | refine below_set ?_ GE234.out) | exact HB.out))⟩)
    ·skip
     refine box_step ?hg (N := 8) ?hd (cs := #[.int .i64 0, .bool false, .int .i64 0, .int .i64 0, .int .i64 0, .int .i64 0]) (t := 33) ?hr ?_; (case hd => rfl); (case hg => rfl); (case hr => first | (go_simp; done) | (go_simp; rfl))
     intro gb234 hg w160 hbox hb
     have n0_ := Aside0.mk (Kd.R_below (Kd.R_elderB (nRo HO198) gb234 (Nat.le_of_eq hg.symm)) hb)
     have n1_ := nR HO201 hb
     have n2_ := Aside0.mk (Kd.R_below (Kd.R_elderB (nRo HO217) gb234 (Nat.le_of_eq hg.symm)) hb)
     have n3_ := nR HO220 hb
     have n4_ := nblk BK193 hb
     have n5_ := nblk BK194 hb
     have n6_ := nblk BK214 hb
     have n7_ := nblk BK221 hb
     have n8_ := nbs HB hb
     have n9_ := Aside0.mk (hbox)
     have n10_ := nge HB hg
     have n11_ := nge HB hg
     have n12_ := nlt BK193 hg
     have n13_ := ngt BK193 hg
     have n14_ := nlt BK194 hg
     have n15_ := ngt BK194 hg
     have n16_ := nlt BK214 hg
     have n17_ := ngt BK214 hg
     have n18_ := nlt BK221 hg
     have n19_ := ngt BK221 hg
     clear HO198 HO201 HO217 HO220 BK193 BK194 BK214 BK221 HB
     have HO198 := n0_
     have HO201 := n1_
     have HO217 := n2_
     have HO220 := n3_
     have BK193 := n4_
     have BK194 := n5_
     have BK214 := n6_
     have BK221 := n7_
     have HB := n8_
     have BK234 := n9_
     have GW234 := n10_
     have GE234 := n11_
     have NB193_234 := n12_
     have NB234_193 := n13_
     have NB194_234 := n14_
     have NB234_194 := n15_
     have NB214_234 := n16_
     have NB234_214 := n17_
     have NB221_234 := n18_
     have NB234_221 := n19_
     clear n0_ n1_ n2_ n3_ n4_ n5_ n6_ n7_ n8_ n9_ n10_ n11_ n12_ n13_ n14_ n15_ n16_ n17_ n18_ n19_
     clear hb hbox hg
     refine hK.out _ _ (c2 BK221 (c6e BK194)) (fun hHeld => ?_)
     clear hK K
     refine norm_ (a' := ?_) ?_ ?_
     rotate_left
     ·show Act.put _ (some 8) _ = _
      simp only [Act.put, List.setIfInBounds_toArray, List.set_cons_zero, List.set_cons_succ, i64_w, i32_w]
      rfl
     refine one_ (i := 2) (N := some 23) #[true, true, true, false, true, false] rfl rfl (by kernel_rfl) (by decide) (fun K hK => ?_)
     refine goesR Try.func15 (by kernel_rfl) rfl #[.agg #[.int .i64 a1_0, .bool a1_1, .int .i64 a1_2, .int .i64 a1_3, .int .i64 a1_4, .int .i64 a1_5]] (by rfl) rfl rfl ?_
     with_reducible refine (laws_toWord.calls a1_0 a1_1 a1_2 a1_3 a1_4 a1_5 t222 t223 t224 t225 t226 t227 _ A14.out).mono ?_
     rintro e w161 ⟨rfl, hb⟩
     refine ⟨_, rfl, ?_⟩
     have n0_ := nR HO198 hb
     have n1_ := nR HO201 hb
     have n2_ := nR HO217 hb
     have n3_ := nR HO220 hb
     have n4_ := nblk BK193 hb
     have n5_ := nblk BK194 hb
     have n6_ := nblk BK214 hb
     have n7_ := nblk BK221 hb
     have n8_ := nblk BK234 hb
     have n9_ := nbs HB hb
     clear HO198 HO201 HO217 HO220 BK193 BK194 BK214 BK221 BK234 HB
     have HO198 := n0_
     have HO201 := n1_
     have HO217 := n2_
     have HO220 := n3_
     have BK193 := n4_
     have BK194 := n5_
     have BK214 := n6_
     have BK221 := n7_
     have BK234 := n8_
     have HB := n9_
     clear n0_ n1_ n2_ n3_ n4_ n5_ n6_ n7_ n8_ n9_
     (try clear hb)
     refine hK.out _ _ (c2 BK221 (c6e BK194)) (fun hHeld => ?_)
     clear hK K
     refine norm_ (a' := ?_) ?_ ?_
     rotate_left
     ·show Act.put _ (some 23) _ = _
      simp only [Act.put, List.setIfInBounds_toArray, List.set_cons_zero, List.set_cons_succ, i64_w, i32_w]
      rfl
     refine one_ (i := 3) (N := some 24) #[true, true, true, true, true, false] rfl rfl (by kernel_rfl) (by decide) (fun K hK => ?_)
     refine goesR Try.func16 (by kernel_rfl) rfl #[.agg #[.slice Ao152 t215.length co152, .slice Ao157 t218.length co157], .agg #[.int .i64 t222, .bool t223, .int .i64 t224, .int .i64 t225, .int .i64 t226, .int .i64 t227]] (by rfl) rfl rfl ?_
     with_reducible refine (impl_Filter.calls _ _ t215 _ _ t218 t222 t223 t224 t225 t226 t227 t228 t229 t230 t231 t232 t233 _ ?side1 ?side2 ?side3 ?side4 A15.out).mono ?_
     (case side1 => repeat (first | exact (Kd.R_reads' HO217.out).2.2 | (with_reducible refine Kd.C_alloc ?_ _) | (with_reducible refine Kd.C_drewN ?_ _) | (with_reducible refine Kd.C_drew ?_)))
     (case side2 => exact (Kd.R_reads' HO217.out).2.1)
     (case side3 => repeat (first | exact (Kd.R_reads' HO220.out).2.2 | (with_reducible refine Kd.C_alloc ?_ _) | (with_reducible refine Kd.C_drewN ?_ _) | (with_reducible refine Kd.C_drew ?_)))
     (case side4 => exact (Kd.R_reads' HO220.out).2.1)
     rintro e w162 ⟨rfl, hb⟩
     refine ⟨_, rfl, ?_⟩
     have n0_ := nR HO198 hb
     have n1_ := nR HO201 hb
     have n2_ := nR HO217 hb
     have n3_ := nR HO220 hb
     have n4_ := nblk BK193 hb
     have n5_ := nblk BK194 hb
     have n6_ := nblk BK214 hb
     have n7_ := nblk BK221 hb
     have n8_ := nblk BK234 hb
     have n9_ := nbs HB hb
     clear HO198 HO201 HO217 HO220 BK193 BK194 BK214 BK221 BK234 HB
     have HO198 := n0_
     have HO201 := n1_
     have HO217 := n2_
     have HO220 := n3_
     have BK193 := n4_
     have BK194 := n5_
     have BK214 := n6_
     have BK221 := n7_
     have BK234 := n8_
     have HB := n9_
     clear n0_ n1_ n2_ n3_ n4_ n5_ n6_ n7_ n8_ n9_
     (try clear hb)
     refine hK.out _ _ (c2 BK221 (c6e BK194)) (fun hHeld => ?_)
     clear hK K
     refine norm_ (a' := ?_) ?_ ?_
     rotate_left
     ·show Act.put _ (some 24) _ = _
      simp only [Act.put, List.setIfInBounds_toArray, List.set_cons_zero, List.set_cons_succ, i64_w, i32_w]
      rfl
     exact norm_ (by simp only [putAll, Act.put, List.setIfInBounds_toArray, List.set_cons_zero, List.set_cons_succ]) (hCont (gb234) _ ⟨hHeld, (by (with_reducible repeat (first | apply Kd.R_alloc | apply Kd.R_drewN | apply Kd.R_drew)); exact Kd.R_mono HO198.out (fun _ hk => ⟨hk.1.1, ⟨hk.1.2, hk.2⟩⟩)), (nRo HO201), (by (with_reducible repeat (first | apply Kd.R_alloc | apply Kd.R_drewN | apply Kd.R_drew)); exact Kd.R_mono HO217.out (fun _ hk => ⟨hk.1.1, ⟨hk.1.2, hk.2⟩⟩)), (nRo HO220), (nb BK193), (nb BK194), (nb BK214), (nb BK221), (nb BK234), GW234.out, GE234.out, NB193_234.out, NB234_193.out, NB194_234.out, NB234_194.out, NB214_234.out, NB234_214.out, NB221_234.out, NB234_221.out, (by repeat (first | (with_reducible first | exact HB.out | apply below_alloc | apply pw_below_drewN | apply below_drew1 | refine below_set ?_ GE193.out | refine below_set ?_ GE194.out | refine below_set ?_ GE214.out | refine below_set ?_ GE221.out | refine below_set ?_ GE234.out) | exact HB.out))⟩)
   rintro gb234 w163 ⟨hS_, h0_, h1_, h2_, h3_, h4_, h5_, h6_, h7_, h8_, h9_, h10_, h11_, h12_, h13_, h14_, h15_, h16_, h17_, h18_, h19_⟩
   have n0_ : Aside0 (Kd.R k33 33 w163 w.heap.size (fun k_ => some k_ ≠ (.slice Ao152 t215.length co152 : Value).ownBlock ∧ k_ ≠ gb214 ∧ k_ ≠ gb234) v197 t196) := ⟨h0_⟩
   have n1_ : Aside0 (Kd.R Kd.bool 4 w163 w.heap.size (fun k_ => some k_ ≠ (.slice Ao157 t218.length co157 : Value).ownBlock) v200 t199) := ⟨h1_⟩
   have n2_ : Aside0 (Kd.R k33 33 w163 w.heap.size (fun k_ => some k_ ≠ (v197 : Value).ownBlock ∧ k_ ≠ gb214 ∧ k_ ≠ gb234) (.slice Ao152 t215.length co152) t215) := ⟨h2_⟩
   have n3_ : Aside0 (Kd.R Kd.bool 4 w163 w.heap.size (fun k_ => some k_ ≠ (v200 : Value).ownBlock) (.slice Ao157 t218.length co157) t218) := ⟨h3_⟩
   have n4_ : Aside0 (w163.heap[gb193]? = some (.cells #[.slice A0_0 l0_0.length c0_0, .slice A0_1 l0_1.length c0_1] 25 (0, 0))) := ⟨h4_⟩
   have n5_ : Aside0 (w163.heap[gb194]? = some (.cells #[.int .i64 a1_0, .bool a1_1, .int .i64 a1_2, .int .i64 a1_3, .int .i64 a1_4, .int .i64 a1_5] 29 (0, 0))) := ⟨h5_⟩
   have n6_ : Aside0 (w163.heap[gb214]? = some (.cells #[.int .i64 t208, .bool t209, .int .i64 t210, .int .i64 t211, .int .i64 t212, .int .i64 t213] 33 (0, 0))) := ⟨h6_⟩
   have n7_ : Aside0 (w163.heap[gb221]? = some (.cells #[.slice Ao152 t215.length co152, .slice Ao157 t218.length co157] 37 (0, 0))) := ⟨h7_⟩
   have n8_ : Aside0 (w163.heap[gb234]? = some (.cells #[.int .i64 0, .bool false, .int .i64 0, .int .i64 0, .int .i64 0, .int .i64 0] 33 (0, 0))) := ⟨h8_⟩
   have n9_ : Aside0 (w.heap.size ≤ gb234) := ⟨h9_⟩
   have n10_ : Aside0 (w.heap.size ≤ gb234) := ⟨h10_⟩
   have n11_ : Aside0 (gb193 ≠ gb234) := ⟨h11_⟩
   have n12_ : Aside0 (gb234 ≠ gb193) := ⟨h12_⟩
   have n13_ : Aside0 (gb194 ≠ gb234) := ⟨h13_⟩
   have n14_ : Aside0 (gb234 ≠ gb194) := ⟨h14_⟩
   have n15_ : Aside0 (gb214 ≠ gb234) := ⟨h15_⟩
   have n16_ : Aside0 (gb234 ≠ gb214) := ⟨h16_⟩
   have n17_ : Aside0 (gb221 ≠ gb234) := ⟨h17_⟩
   have n18_ : Aside0 (gb234 ≠ gb221) := ⟨h18_⟩
   have n19_ : Aside0 (Below w.heap.size w w163) := ⟨h19_⟩
   clear HO198 HO201 HO217 HO220 BK193 BK194 BK214 BK221 HB
   clear h0_ h1_ h2_ h3_ h4_ h5_ h6_ h7_ h8_ h9_ h10_ h11_ h12_ h13_ h14_ h15_ h16_ h17_ h18_ h19_
   have HO198 := n0_
   have HO201 := n1_
   have HO217 := n2_
   have HO220 := n3_
   have BK193 := n4_
   have BK194 := n5_
   have BK214 := n6_
   have BK221 := n7_
   have BK234 := n8_
   have GW234 := n9_
   have GE234 := n10_
   have NB193_234 := n11_
   have NB234_193 := n12_
   have NB194_234 := n13_
   have NB234_194 := n14_
   have NB214_234 := n15_
   have NB234_214 := n16_
   have NB221_234 := n17_
   have NB234_221 := n18_
   have HB := n19_
   clear n0_ n1_ n2_ n3_ n4_ n5_ n6_ n7_ n8_ n9_ n10_ n11_ n12_ n13_ n14_ n15_ n16_ n17_ n18_ n19_
   have hHeld : w163.cell? ⟨gb221, 0, none⟩ = some (.slice Ao152 t215.length co152) ∧ w163.cell? ⟨gb221, 1, none⟩ = some (.slice Ao157 t218.length co157) ∧ w163.cell? ⟨gb194, 0, none⟩ = some (.int .i64 a1_0) ∧ w163.cell? ⟨gb194, 1, none⟩ = some (.bool a1_1) ∧ w163.cell? ⟨gb194, 2, none⟩ = some (.int .i64 a1_2) ∧ w163.cell? ⟨gb194, 3, none⟩ = some (.int .i64 a1_3) ∧ w163.cell? ⟨gb194, 4, none⟩ = some (.int .i64 a1_4) ∧ w163.cell? ⟨gb194, 5, none⟩ = some (.int .i64 a1_5) := hS_
   refine norm_ (a' := ?_) ?_ ?_
   rotate_left
   ·simp only [putAll, Act.put, List.setIfInBounds_toArray, List.set_cons_zero, List.set_cons_succ]
    rfl
   refine one_ (i := 5) (N := none) #[true, true, true, true, true, true] rfl rfl (by kernel_rfl) (by decide) (fun K hK => ?_)
   have hs164 : w163.cell? ⟨gb234, 0, none⟩ = some (.int .i64 0) := (blk_cell BK234.out 0).trans rfl
   have hfs164 := blk_frozen BK234.out 0
   have hns164_0 := NB193_234.out
   have hns164_1 := NB194_234.out
   have hns164_2 := NB214_234.out
   have hns164_3 := NB221_234.out
   have hms164_0 := NB234_193.out
   have hms164_1 := NB234_194.out
   have hms164_2 := NB234_214.out
   have hms164_3 := NB234_221.out
   have hs165 : w163.cell? ⟨gb234, 1, none⟩ = some (.bool false) := (blk_cell BK234.out 1).trans rfl
   have hfs165 := blk_frozen BK234.out 1
   have hns165_0 := NB193_234.out
   have hns165_1 := NB194_234.out
   have hns165_2 := NB214_234.out
   have hns165_3 := NB221_234.out
   have hms165_0 := NB234_193.out
   have hms165_1 := NB234_194.out
   have hms165_2 := NB234_214.out
   have hms165_3 := NB234_221.out
   have hs166 : w163.cell? ⟨gb234, 2, none⟩ = some (.int .i64 0) := (blk_cell BK234.out 2).trans rfl
   have hfs166 := blk_frozen BK234.out 2
   have hns166_0 := NB193_234.out
   have hns166_1 := NB194_234.out
   have hns166_2 := NB214_234.out
   have hns166_3 := NB221_234.out
   have hms166_0 := NB234_193.out
   have hms166_1 := NB234_194.out
   have hms166_2 := NB234_214.out
   have hms166_3 := NB234_221.out
   have hs167 : w163.cell? ⟨gb234, 3, none⟩ = some (.int .i64 0) := (blk_cell BK234.out 3).trans rfl
   have hfs167 := blk_frozen BK234.out 3
   have hns167_0 := NB193_234.out
   have hns167_1 := NB194_234.out
   have hns167_2 := NB214_234.out
   have hns167_3 := NB221_234.out
   have hms167_0 := NB234_193.out
   have hms167_1 := NB234_194.out
   have hms167_2 := NB234_214.out
   have hms167_3 := NB234_221.out
   have hs168 : w163.cell? ⟨gb234, 4, none⟩ = some (.int .i64 0) := (blk_cell BK234.out 4).trans rfl
   have hfs168 := blk_frozen BK234.out 4
   have hns168_0 := NB193_234.out
   have hns168_1 := NB194_234.out
   have hns168_2 := NB214_234.out
   have hns168_3 := NB221_234.out
   have hms168_0 := NB234_193.out
   have hms168_1 := NB234_194.out
   have hms168_2 := NB234_214.out
   have hms168_3 := NB234_221.out
   have hs169 : w163.cell? ⟨gb234, 5, none⟩ = some (.int .i64 0) := (blk_cell BK234.out 5).trans rfl
   have hfs169 := blk_frozen BK234.out 5
   have hns169_0 := NB193_234.out
   have hns169_1 := NB194_234.out
   have hns169_2 := NB214_234.out
   have hns169_3 := NB221_234.out
   have hms169_0 := NB234_193.out
   have hms169_1 := NB234_194.out
   have hms169_2 := NB234_214.out
   have hms169_3 := NB234_221.out
   refine skip_ (w1 := ?_) (by rfl) rfl ?_ ?_
   rotate_left
   ·go_simp
    rfl
   refine hK.out _ _ ⟨(g6 NB221_234.out hHeld.1), (g6 NB221_234.out hHeld.2.1), (g6 NB194_234.out hHeld.2.2.1), (g6 NB194_234.out hHeld.2.2.2.1), (g6 NB194_234.out hHeld.2.2.2.2.1), (g6 NB194_234.out hHeld.2.2.2.2.2.1), (g6 NB194_234.out hHeld.2.2.2.2.2.2.1), (g6 NB194_234.out hHeld.2.2.2.2.2.2.2)⟩ (fun hHeld => ?_)
   clear hK K
   refine done_ (by kernel_rfl) ?_
   have hnb170 := NB234_193.out
   have hnc170 := NB193_234.out
   have hnb171 := NB234_194.out
   have hnc171 := NB194_234.out
   have hnb172 := NB234_214.out
   have hnc172 := NB214_234.out
   have hnb173 := NB234_221.out
   have hnc173 := NB221_234.out
   have hcz174_0 : w163.cell? ⟨gb234, 0, none⟩ = some (.int .i64 0) := (blk_cell BK234.out 0).trans rfl
   have hcz174_1 : w163.cell? ⟨gb234, 1, none⟩ = some (.bool false) := (blk_cell BK234.out 1).trans rfl
   have hcz174_2 : w163.cell? ⟨gb234, 2, none⟩ = some (.int .i64 0) := (blk_cell BK234.out 2).trans rfl
   have hcz174_3 : w163.cell? ⟨gb234, 3, none⟩ = some (.int .i64 0) := (blk_cell BK234.out 3).trans rfl
   have hcz174_4 : w163.cell? ⟨gb234, 4, none⟩ = some (.int .i64 0) := (blk_cell BK234.out 4).trans rfl
   have hcz174_5 : w163.cell? ⟨gb234, 5, none⟩ = some (.int .i64 0) := (blk_cell BK234.out 5).trans rfl
   have hfz174_0 := blk_frozen BK234.out 0
   have hfz174_1 := blk_frozen BK234.out 1
   have hfz174_2 := blk_frozen BK234.out 2
   have hfz174_3 := blk_frozen BK234.out 3
   have hfz174_4 := blk_frozen BK234.out 4
   have hfz174_5 := blk_frozen BK234.out 5
   have hnb175 := NB214_194.out
   have hnc175 := NB194_214.out
   have hcz176_0 : w163.cell? ⟨gb214, 0, none⟩ = some (.int .i64 t208) := (blk_cell BK214.out 0).trans rfl
   have hcz176_1 : w163.cell? ⟨gb214, 1, none⟩ = some (.bool t209) := (blk_cell BK214.out 1).trans rfl
   have hcz176_2 : w163.cell? ⟨gb214, 2, none⟩ = some (.int .i64 t210) := (blk_cell BK214.out 2).trans rfl
   have hcz176_3 : w163.cell? ⟨gb214, 3, none⟩ = some (.int .i64 t211) := (blk_cell BK214.out 3).trans rfl
   have hcz176_4 : w163.cell? ⟨gb214, 4, none⟩ = some (.int .i64 t212) := (blk_cell BK214.out 4).trans rfl
   have hcz176_5 : w163.cell? ⟨gb214, 5, none⟩ = some (.int .i64 t213) := (blk_cell BK214.out 5).trans rfl
   have hfz176_0 := blk_frozen BK214.out 0
   have hfz176_1 := blk_frozen BK214.out 1
   have hfz176_2 := blk_frozen BK214.out 2
   have hfz176_3 := blk_frozen BK214.out 3
   have hfz176_4 := blk_frozen BK214.out 4
   have hfz176_5 := blk_frozen BK214.out 5
   try go_wp2_with (first | ((with_reducible refine gate_callee (f := 17) rfl ?_); refine goesM (some 27) rfl rfl Try.func17 (by kernel_rfl) rfl #[.agg #[.int .i64 t228, .bool t229, .int .i64 t230, .int .i64 t231, .int .i64 t232, .int .i64 t233], .agg #[.int .i64 t208, .bool t209, .int .i64 t210, .int .i64 t211, .int .i64 t212, .int .i64 t213]] rfl ?_; (with_reducible refine (laws_eqWord.calls t228 t229 t230 t231 t232 t233 t208 t209 t210 t211 t212 t213 false _ A16.out).mono ?_); rintro e w177 ⟨rfl, hb⟩; refine ⟨_, rfl, ?_⟩; have n0_ := Aside0.mk (Kd.R_below (by (with_reducible repeat (first | apply Kd.R_alloc | apply Kd.R_drewN | apply Kd.R_drew)); exact (f6 (Kd.R_mono HO198.out (fun k_ hk => (⟨hk, hk.2.2⟩ : _ ∧ k_ ≠ gb234))))) hb); have n1_ := Aside0.mk (Kd.R_below (by (with_reducible repeat (first | apply Kd.R_alloc | apply Kd.R_drewN | apply Kd.R_drew)); exact (f6 (Kd.R_types HO201.out BK234.out (by decide)))) hb); have n2_ := Aside0.mk (Kd.R_below (by (with_reducible repeat (first | apply Kd.R_alloc | apply Kd.R_drewN | apply Kd.R_drew)); exact (f6 (Kd.R_mono HO217.out (fun k_ hk => (⟨hk, hk.2.2⟩ : _ ∧ k_ ≠ gb234))))) hb); have n3_ := Aside0.mk (Kd.R_below (by (with_reducible repeat (first | apply Kd.R_alloc | apply Kd.R_drewN | apply Kd.R_drew)); exact (f6 (Kd.R_types HO220.out BK234.out (by decide)))) hb); have n4_ := nblk BK193 hb; have n5_ := nblk BK194 hb; have n6_ := nblk BK214 hb; have n7_ := nblk BK221 hb; have n8_ := Aside0.mk (blk_below (g := gb234) (o := .cells #[.int .i64 t228, .bool t229, .int .i64 t230, .int .i64 t231, .int .i64 t232, .int .i64 t233] 33 (0, 0)) (by (with_reducible repeat (first | refine blk_drewN ?_ _ | refine blk_drew ?_ | refine blk_alloc ?_ _)); refine blk_put (cs := #[.int .i64 t228, .bool t229, .int .i64 t230, .int .i64 t231, .int .i64 t232, .int .i64 0]) ?_ 5 _ rfl; (with_reducible repeat (first | refine blk_drewN ?_ _ | refine blk_drew ?_ | refine blk_alloc ?_ _)); refine blk_put (cs := #[.int .i64 t228, .bool t229, .int .i64 t230, .int .i64 t231, .int .i64 0, .int .i64 0]) ?_ 4 _ rfl; (with_reducible repeat (first | refine blk_drewN ?_ _ | refine blk_drew ?_ | refine blk_alloc ?_ _)); refine blk_put (cs := #[.int .i64 t228, .bool t229, .int .i64 t230, .int .i64 0, .int .i64 0, .int .i64 0]) ?_ 3 _ rfl; (with_reducible repeat (first | refine blk_drewN ?_ _ | refine blk_drew ?_ | refine blk_alloc ?_ _)); refine blk_put (cs := #[.int .i64 t228, .bool t229, .int .i64 0, .int .i64 0, .int .i64 0, .int .i64 0]) ?_ 2 _ rfl; (with_reducible repeat (first | refine blk_drewN ?_ _ | refine blk_drew ?_ | refine blk_alloc ?_ _)); refine blk_put (cs := #[.int .i64 t228, .bool false, .int .i64 0, .int .i64 0, .int .i64 0, .int .i64 0]) ?_ 1 _ rfl; (with_reducible repeat (first | refine blk_drewN ?_ _ | refine blk_drew ?_ | refine blk_alloc ?_ _)); refine blk_put (cs := #[.int .i64 0, .bool false, .int .i64 0, .int .i64 0, .int .i64 0, .int .i64 0]) ?_ 0 _ rfl; (with_reducible repeat (first | refine blk_drewN ?_ _ | refine blk_drew ?_ | refine blk_alloc ?_ _)); exact BK234.out) hb); have n9_ := nbs HB hb; clear HO198 HO201 HO217 HO220 BK193 BK194 BK214 BK221 BK234 HB; have HO198 := n0_; have HO201 := n1_; have HO217 := n2_; have HO220 := n3_; have BK193 := n4_; have BK194 := n5_; have BK214 := n6_; have BK221 := n7_; have BK234 := n8_; have HB := n9_; clear n0_ n1_ n2_ n3_ n4_ n5_ n6_ n7_ n8_ n9_; (try clear hb)))
   go_ret
   exact ⟨by first | rfl | (simp [errW_none, errW_some] <;> rfl) | (simp [*, errW_none, errW_some] <;> rfl), by repeat (first | (with_reducible first | exact HB.out | apply below_alloc | apply pw_below_drewN | apply below_drew1 | refine below_set ?_ GE193.out | refine below_set ?_ GE194.out | refine below_set ?_ GE214.out | refine below_set ?_ GE221.out | refine below_set ?_ GE234.out) | exact HB.out)⟩

end Go.Proofs.Ytlblngbhffpfoaa.PFnExactFilter
