-- Written by a program of this session (wip/patch.py turns a copy of the kit's print): the functions that the law reaches, and their walks.
import Derived.Test.YtlblngbhffpfoaaPFnExactReadx0
import Derived.Test.YtlblngbhffpfoaaPFnExactReadx2
import Derived.Test.YtlblngbhffpfoaaPFnExactReadx3
import Derived.Test.YtlblngbhffpfoaaPFnExactReadx5
import Derived.Test.YtlblngbhffpfoaaPFnExactReadx7
import Derived.Test.YtlblngbhffpfoaaCFnExactRead
namespace Go.Proofs.Ytlblngbhffpfoaa.PFnExactRead
open Go.RowKit Go.Proofs.YtlblngbhffpfoaaW.PrintWords Go.Proofs.YtlblngbhffpfoaaW.PrintLast Go.Proofs.YtlblngbhffpfoaaW.PrintMore Go.Proofs.YtlblngbhffpfoaaW.Mine
attribute [local go_sem] max2_int min2_int max_two min_two max_three min_three max_four min_four   -- for this text's walks alone
set_option linter.unusedVariables false
set_option linter.unusedSimpArgs false

/-! ### laws_FnExactRead: function 6 -/
def laws_FnExactRead.j0 : Nat → Bool → List (S29) → List Bool → List (S33) → List Bool → Option (Bool)
 | 0, _, _, _, _, _ => none
 | k + 1, x45, x309000, x309001, x338000, x338001 => if x45 = true then (some false) else ((laws_toMemory.f k x309000 x309001).bind fun bt353 => ((laws_eqMemory.f k x338000 x338001 bt353.1 bt353.2).bind fun t359 => (if t359 = true then (some true) else (some false))))
def laws_FnExactRead.f (k : Nat) (l0_0 : List (S29)) (l0_1 : List Bool) (a1_0 : Int) (a1_1 : Bool) (a1_2 : Int) (a1_3 : Int) (a1_4 : Int) (a1_5 : Int) (a2 : Int) : Option (Bool) := (laws_szMemory.f l0_0 l0_1 1048576).bind fun t310 => (if t310 < 0 then (some true) else ((laws_toMemory.f k l0_0 l0_1).bind fun bt311 => ((laws_toWord.f a1_0 a1_1 a1_2 a1_3 a1_4 a1_5).bind fun bt317 => ((spec_Read.f k bt311.1 bt311.2 bt317.1 bt317.2.1 bt317.2.2.1 bt317.2.2.2.1 bt317.2.2.2.2.1 bt317.2.2.2.2.2 a2).bind fun bt323 => ((laws_toMemory.f k l0_0 l0_1).bind fun bt331 => ((laws_toWord.f a1_0 a1_1 a1_2 a1_3 a1_4 a1_5).bind fun bt338 => ((impl_Read.f k bt331.1 bt331.2 bt338.1 bt338.2.1 bt338.2.2.1 bt338.2.2.2.1 bt338.2.2.2.2.1 bt338.2.2.2.2.2 a2).bind fun bt344 => ((laws_eqWord.f bt344.1 bt344.2.1 bt344.2.2.1 bt344.2.2.2.1 bt344.2.2.2.2.1 bt344.2.2.2.2.2.1 bt323.1 bt323.2.1 bt323.2.2.1 bt323.2.2.2.1 bt323.2.2.2.2.1 bt323.2.2.2.2.2.1).bind fun t352 => (if t352 = true then (laws_FnExactRead.j0 k (bt344.2.2.2.2.2.2 != bt323.2.2.2.2.2.2) l0_0 l0_1 bt331.1 bt331.2) else (laws_FnExactRead.j0 k true l0_0 l0_1 bt331.1 bt331.2))))))))))
theorem laws_FnExactRead.mono_l : ∀ k, (∀ y0 y1 y2 y3 y4, LeO (laws_FnExactRead.j0 k y0 y1 y2 y3 y4) (laws_FnExactRead.j0 (k + 1) y0 y1 y2 y3 y4))
 | 0 => fun _ _ _ _ _ r h => by simp [laws_FnExactRead.j0] at h
 | k + 1 => by
  have ih0 := laws_FnExactRead.mono_l k
  ·intro y0 y1 y2 y3 y4
   unfold laws_FnExactRead.j0
   repeat' first
   | (with_reducible exact ih0 _ _ _ _ _)
   | (with_reducible exact impl_Read.mono _ _ _ _ _ _ _ _ _ _)
   | (with_reducible exact laws_eqMemory.mono _ _ _ _ _)
   | (with_reducible exact laws_toMemory.mono _ _ _)
   | (with_reducible exact spec_Read.mono _ _ _ _ _ _ _ _ _ _)
   | (with_reducible exact LeO.refl _)
   | (with_reducible exact LeO.none _)
   | (with_reducible refine LeO.ite ?_ ?_)
   | (with_reducible refine LeO.bind ?_ (fun _ => ?_))
   | exact ih0 _ _ _ _ _
   | exact impl_Read.mono _ _ _ _ _ _ _ _ _ _
   | exact laws_eqMemory.mono _ _ _ _ _
   | exact laws_toMemory.mono _ _ _
   | exact spec_Read.mono _ _ _ _ _ _ _ _ _ _
   | exact LeO.none _
   | refine LeO.ite ?_ ?_
   | refine LeO.bind ?_ (fun _ => ?_)
theorem laws_FnExactRead.mono : ∀ a0 a1 a2 a3 a4 a5 a6 a7 a8 k, LeO (laws_FnExactRead.f k a0 a1 a2 a3 a4 a5 a6 a7 a8) (laws_FnExactRead.f (k + 1) a0 a1 a2 a3 a4 a5 a6 a7 a8) := by
 intro a0 a1 a2 a3 a4 a5 a6 a7 a8 k
 have ih0 := laws_FnExactRead.mono_l k
 unfold laws_FnExactRead.f
 repeat' first
   | (with_reducible exact ih0 _ _ _ _ _)
   | (with_reducible exact impl_Read.mono _ _ _ _ _ _ _ _ _ _)
   | (with_reducible exact laws_eqMemory.mono _ _ _ _ _)
   | (with_reducible exact laws_toMemory.mono _ _ _)
   | (with_reducible exact spec_Read.mono _ _ _ _ _ _ _ _ _ _)
   | (with_reducible exact LeO.refl _)
   | (with_reducible exact LeO.none _)
   | (with_reducible refine LeO.ite ?_ ?_)
   | (with_reducible refine LeO.bind ?_ (fun _ => ?_))
   | exact ih0 _ _ _ _ _
   | exact impl_Read.mono _ _ _ _ _ _ _ _ _ _
   | exact laws_eqMemory.mono _ _ _ _ _
   | exact laws_toMemory.mono _ _ _
   | exact spec_Read.mono _ _ _ _ _ _ _ _ _ _
   | exact LeO.none _
   | refine LeO.ite ?_ ?_
   | refine LeO.bind ?_ (fun _ => ?_)
def laws_FnExactRead.T5 : Bool × List (List Nat × List Nat) := (true, [([], []), ([0], [0]), ([], []), ([2, 1], [2]), ([], []), ([1, 3, 4, 3], [1, 3, 4]), ([5], [5]), ([6], [6]), ([6], [6]), ([], []), ([9, 7, 5, 0, 1, 2, 3, 4, 5, 6, 7, 9], [7, 9]), ([8, 10, 0, 1, 2, 3, 4, 5, 6, 7, 8, 9, 10], [8])])
def laws_FnExactRead.B5 : List Nat := [0, 1, 0, 7, 0, 31, 63, 127, 127, 0, 767, 2047]
theorem laws_FnExactRead.tab5 : rtab .any (opsOf Try.f6 5) = laws_FnExactRead.T5 := by kernel_rfl
theorem laws_FnExactRead.bits5 : waitsOk laws_FnExactRead.T5.2 laws_FnExactRead.B5 = true := by kernel_rfl
def laws_FnExactRead.T7 : Bool × List (List Nat × List Nat) := (true, [([], []), ([], []), ([1], [1]), ([], []), ([0, 2, 3, 2], [0, 2, 3]), ([4], [4]), ([5], [5]), ([5], [5]), ([], []), ([8, 6, 4, 0, 1, 2, 3, 4, 5, 6, 8], [6, 8]), ([7, 9, 0, 1, 2, 3, 4, 5, 6, 7, 8, 9], [7])])
def laws_FnExactRead.B7 : List Nat := [0, 0, 2, 0, 15, 31, 63, 63, 0, 383, 1023]
theorem laws_FnExactRead.tab7 : rtab .any (opsOf Try.f6 7) = laws_FnExactRead.T7 := by kernel_rfl
theorem laws_FnExactRead.bits7 : waitsOk laws_FnExactRead.T7.2 laws_FnExactRead.B7 = true := by kernel_rfl
set_option maxHeartbeats 8000000 in
set_option maxRecDepth 100000 in
theorem laws_FnExactRead.calls (k : Nat) (A0_0 : Option Addr) (c0_0 : Nat) (l0_0 : List (S29)) (A0_1 : Option Addr) (c0_1 : Nat) (l0_1 : List Bool) (a1_0 : Int) (a1_1 : Bool) (a1_2 : Int) (a1_3 : Int) (a1_4 : Int) (a1_5 : Int) (a2 : Int) (r : Bool) (w : World) (hr0_0 : Kd.C k29 w A0_0 l0_0.length l0_0) (hc0_0 : l0_0.length ≤ c0_0) (hr0_1 : Kd.C Kd.bool w A0_1 l0_1.length l0_1) (hc0_1 : l0_1.length ≤ c0_1) (h : laws_FnExactRead.f k l0_0 l0_1 a1_0 a1_1 a1_2 a1_3 a1_4 a1_5 a2 = some r) :
  Calls Try.prog 6 #[.agg #[.slice A0_0 l0_0.length c0_0, .slice A0_1 l0_1.length c0_1], .agg #[.int .i64 a1_0, .bool a1_1, .int .i64 a1_2, .int .i64 a1_3, .int .i64 a1_4, .int .i64 a1_5], .int .i64 a2] w fun e w' => e = .returned (.bool r) ∧ Below w.heap.size w w' := by
 have hu25 := Try.underlying25
 have hu29 := Try.underlying29
 have hu33 := Try.underlying33
 have hu37 := Try.underlying37
 have HR0_0 := Aside0.mk hr0_0
 have HC0_0 := Aside0.mk hc0_0
 clear hr0_0 hc0_0
 have HR0_1 := Aside0.mk hr0_1
 have HC0_1 := Aside0.mk hc0_1
 clear hr0_1 hc0_1
 have HB := Aside0.mk (Below.refl w.heap.size w)
 have H : ((laws_szMemory.f l0_0 l0_1 1048576).bind fun t310 => (if t310 < 0 then (some true) else ((laws_toMemory.f k l0_0 l0_1).bind fun bt311 => ((laws_toWord.f a1_0 a1_1 a1_2 a1_3 a1_4 a1_5).bind fun bt317 => ((spec_Read.f k bt311.1 bt311.2 bt317.1 bt317.2.1 bt317.2.2.1 bt317.2.2.2.1 bt317.2.2.2.2.1 bt317.2.2.2.2.2 a2).bind fun bt323 => ((laws_toMemory.f k l0_0 l0_1).bind fun bt331 => ((laws_toWord.f a1_0 a1_1 a1_2 a1_3 a1_4 a1_5).bind fun bt338 => ((impl_Read.f k bt331.1 bt331.2 bt338.1 bt338.2.1 bt338.2.2.1 bt338.2.2.2.1 bt338.2.2.2.2.1 bt338.2.2.2.2.2 a2).bind fun bt344 => ((laws_eqWord.f bt344.1 bt344.2.1 bt344.2.2.1 bt344.2.2.2.1 bt344.2.2.2.2.1 bt344.2.2.2.2.2.1 bt323.1 bt323.2.1 bt323.2.2.1 bt323.2.2.2.1 bt323.2.2.2.2.1 bt323.2.2.2.2.2.1).bind fun t352 => (if t352 = true then (laws_FnExactRead.j0 k (bt344.2.2.2.2.2.2 != bt323.2.2.2.2.2.2) l0_0 l0_1 bt331.1 bt331.2) else (laws_FnExactRead.j0 k true l0_0 l0_1 bt331.1 bt331.2))))))))))) = some r := h
 clear h
 replace H := Option.bind_eq_some_iff.mp H
 obtain ⟨t310, A40, H⟩ := H
 replace H : (if t310 < 0 then (some true) else ((laws_toMemory.f k l0_0 l0_1).bind fun bt311 => ((laws_toWord.f a1_0 a1_1 a1_2 a1_3 a1_4 a1_5).bind fun bt317 => ((spec_Read.f k bt311.1 bt311.2 bt317.1 bt317.2.1 bt317.2.2.1 bt317.2.2.2.1 bt317.2.2.2.2.1 bt317.2.2.2.2.2 a2).bind fun bt323 => ((laws_toMemory.f k l0_0 l0_1).bind fun bt331 => ((laws_toWord.f a1_0 a1_1 a1_2 a1_3 a1_4 a1_5).bind fun bt338 => ((impl_Read.f k bt331.1 bt331.2 bt338.1 bt338.2.1 bt338.2.2.1 bt338.2.2.2.1 bt338.2.2.2.2.1 bt338.2.2.2.2.2 a2).bind fun bt344 => ((laws_eqWord.f bt344.1 bt344.2.1 bt344.2.2.1 bt344.2.2.2.1 bt344.2.2.2.2.1 bt344.2.2.2.2.2.1 bt323.1 bt323.2.1 bt323.2.2.1 bt323.2.2.2.1 bt323.2.2.2.2.1 bt323.2.2.2.2.2.1).bind fun t352 => (if t352 = true then (laws_FnExactRead.j0 k (bt344.2.2.2.2.2.2 != bt323.2.2.2.2.2.2) l0_0 l0_1 bt331.1 bt331.2) else (laws_FnExactRead.j0 k true l0_0 l0_1 bt331.1 bt331.2)))))))))) = some r := H
 have A4 := Aside0.mk A40
 clear A40
 by_cases c5 : t310 < 0
 ·rw [if_pos c5] at H
  have c5b0 : decide (t310 < 0) = true := decide_eq_true c5
  clear c5
  obtain rfl := Option.some.inj H
  go_enter Try.func6, Try.ntmps6
  go_wp2_with (first | ((with_reducible refine gate_dst (N := 3) rfl ?_); refine box_event ?hg (N := 3) ?hd (cs := #[.slice A0_0 l0_0.length c0_0, .slice A0_1 l0_1.length c0_1]) (t := 25) ?hr ?_; (case hd => rfl); (case hg => rfl); (case hr => first | (go_simp; done) | (go_simp; rfl)); intro gb308 hg w6 hbox hb; have n0_ := nbs HB hb; have n1_ := Aside0.mk (hbox); have n2_ := nge HB hg; have n3_ := nge HB hg; clear HB; have HB := n0_; have BK308 := n1_; have GW308 := n2_; have GE308 := n3_; clear n0_ n1_ n2_ n3_; clear hb hbox hg) | ((with_reducible refine gate_dst (N := 4) rfl ?_); refine box_event ?hg (N := 4) ?hd (cs := #[.int .i64 a1_0, .bool a1_1, .int .i64 a1_2, .int .i64 a1_3, .int .i64 a1_4, .int .i64 a1_5]) (t := 29) ?hr ?_; (case hd => rfl); (case hg => rfl); (case hr => first | (go_simp; done) | (go_simp; rfl)); intro gb309 hg w7 hbox hb; have n0_ := nblk BK308 hb; have n1_ := nbs HB hb; have n2_ := Aside0.mk (hbox); have n3_ := nge HB hg; have n4_ := nge HB hg; have n5_ := nlt BK308 hg; have n6_ := ngt BK308 hg; clear BK308 HB; have BK308 := n0_; have HB := n1_; have BK309 := n2_; have GW309 := n3_; have GE309 := n4_; have NB308_309 := n5_; have NB309_308 := n6_; clear n0_ n1_ n2_ n3_ n4_ n5_ n6_; clear hb hbox hg; have hnb8 := NB308_309.out; have hnc8 := NB309_308.out; have hcz9_0 : w7.cell? ⟨gb308, 0, none⟩ = some (.slice A0_0 l0_0.length c0_0) := (blk_cell BK308.out 0).trans rfl; have hcz9_1 : w7.cell? ⟨gb308, 1, none⟩ = some (.slice A0_1 l0_1.length c0_1) := (blk_cell BK308.out 1).trans rfl; have hfz9_0 := blk_frozen BK308.out 0; have hfz9_1 := blk_frozen BK308.out 1) | ((with_reducible refine gate_callee (f := 12) rfl ?_); refine goesM (some 15) rfl rfl Try.func12 (by kernel_rfl) rfl #[.agg #[.slice A0_0 l0_0.length c0_0, .slice A0_1 l0_1.length c0_1], .int .i64 1048576] rfl ?_; (with_reducible refine (laws_szMemory.calls _ _ l0_0 _ _ l0_1 1048576 t310 _ ?side1 ?side2 ?side3 ?side4 A4.out).mono ?_); (case side1 => repeat (first | exact (Kd.C_below HR0_0.out HB.out) | (with_reducible refine Kd.C_alloc ?_ _) | (with_reducible refine Kd.C_drewN ?_ _) | (with_reducible refine Kd.C_drew ?_))); (case side2 => exact HC0_0.out); (case side3 => repeat (first | exact (Kd.C_below HR0_1.out HB.out) | (with_reducible refine Kd.C_alloc ?_ _) | (with_reducible refine Kd.C_drewN ?_ _) | (with_reducible refine Kd.C_drew ?_))); (case side4 => exact HC0_1.out); rintro e w10 ⟨rfl, hb⟩; refine ⟨_, rfl, ?_⟩; have n0_ := nblk BK308 hb; have n1_ := nblk BK309 hb; have n2_ := nbs HB hb; clear BK308 BK309 HB; have BK308 := n0_; have BK309 := n1_; have HB := n2_; clear n0_ n1_ n2_; (try clear hb)))
  go_ret
  exact ⟨by first | rfl | (simp [errW_none, errW_some] <;> rfl) | (simp [*, errW_none, errW_some] <;> rfl), by repeat (first | (with_reducible first | exact HB.out | apply below_alloc | apply pw_below_drewN | apply below_drew1 | refine below_set ?_ GE308.out | refine below_set ?_ GE309.out) | exact HB.out)⟩
 ·rw [if_neg c5] at H
  have c5b0 : decide (t310 < 0) = false := decide_eq_false c5
  clear c5
  replace H := Option.bind_eq_some_iff.mp H
  obtain ⟨⟨t311, t314⟩, A110, H⟩ := H
  replace H : ((laws_toWord.f a1_0 a1_1 a1_2 a1_3 a1_4 a1_5).bind fun bt317 => ((spec_Read.f k t311 t314 bt317.1 bt317.2.1 bt317.2.2.1 bt317.2.2.2.1 bt317.2.2.2.2.1 bt317.2.2.2.2.2 a2).bind fun bt323 => ((laws_toMemory.f k l0_0 l0_1).bind fun bt331 => ((laws_toWord.f a1_0 a1_1 a1_2 a1_3 a1_4 a1_5).bind fun bt338 => ((impl_Read.f k bt331.1 bt331.2 bt338.1 bt338.2.1 bt338.2.2.1 bt338.2.2.2.1 bt338.2.2.2.2.1 bt338.2.2.2.2.2 a2).bind fun bt344 => ((laws_eqWord.f bt344.1 bt344.2.1 bt344.2.2.1 bt344.2.2.2.1 bt344.2.2.2.2.1 bt344.2.2.2.2.2.1 bt323.1 bt323.2.1 bt323.2.2.1 bt323.2.2.2.1 bt323.2.2.2.2.1 bt323.2.2.2.2.2.1).bind fun t352 => (if t352 = true then (laws_FnExactRead.j0 k (bt344.2.2.2.2.2.2 != bt323.2.2.2.2.2.2) l0_0 l0_1 bt331.1 bt331.2) else (laws_FnExactRead.j0 k true l0_0 l0_1 bt331.1 bt331.2)))))))) = some r := H
  have A11 := Aside0.mk A110
  clear A110
  replace H := Option.bind_eq_some_iff.mp H
  obtain ⟨⟨t317, t318, t319, t320, t321, t322⟩, A120, H⟩ := H
  replace H : ((spec_Read.f k t311 t314 t317 t318 t319 t320 t321 t322 a2).bind fun bt323 => ((laws_toMemory.f k l0_0 l0_1).bind fun bt331 => ((laws_toWord.f a1_0 a1_1 a1_2 a1_3 a1_4 a1_5).bind fun bt338 => ((impl_Read.f k bt331.1 bt331.2 bt338.1 bt338.2.1 bt338.2.2.1 bt338.2.2.2.1 bt338.2.2.2.2.1 bt338.2.2.2.2.2 a2).bind fun bt344 => ((laws_eqWord.f bt344.1 bt344.2.1 bt344.2.2.1 bt344.2.2.2.1 bt344.2.2.2.2.1 bt344.2.2.2.2.2.1 bt323.1 bt323.2.1 bt323.2.2.1 bt323.2.2.2.1 bt323.2.2.2.2.1 bt323.2.2.2.2.2.1).bind fun t352 => (if t352 = true then (laws_FnExactRead.j0 k (bt344.2.2.2.2.2.2 != bt323.2.2.2.2.2.2) l0_0 l0_1 bt331.1 bt331.2) else (laws_FnExactRead.j0 k true l0_0 l0_1 bt331.1 bt331.2))))))) = some r := H
  have A12 := Aside0.mk A120
  clear A120
  replace H := Option.bind_eq_some_iff.mp H
  obtain ⟨⟨t323, t324, t325, t326, t327, t328, t329⟩, A130, H⟩ := H
  replace H : ((laws_toMemory.f k l0_0 l0_1).bind fun bt331 => ((laws_toWord.f a1_0 a1_1 a1_2 a1_3 a1_4 a1_5).bind fun bt338 => ((impl_Read.f k bt331.1 bt331.2 bt338.1 bt338.2.1 bt338.2.2.1 bt338.2.2.2.1 bt338.2.2.2.2.1 bt338.2.2.2.2.2 a2).bind fun bt344 => ((laws_eqWord.f bt344.1 bt344.2.1 bt344.2.2.1 bt344.2.2.2.1 bt344.2.2.2.2.1 bt344.2.2.2.2.2.1 t323 t324 t325 t326 t327 t328).bind fun t352 => (if t352 = true then (laws_FnExactRead.j0 k (bt344.2.2.2.2.2.2 != t329) l0_0 l0_1 bt331.1 bt331.2) else (laws_FnExactRead.j0 k true l0_0 l0_1 bt331.1 bt331.2)))))) = some r := H
  have A13 := Aside0.mk A130
  clear A130
  replace H := Option.bind_eq_some_iff.mp H
  obtain ⟨⟨t331, t334⟩, A140, H⟩ := H
  replace H : ((laws_toWord.f a1_0 a1_1 a1_2 a1_3 a1_4 a1_5).bind fun bt338 => ((impl_Read.f k t331 t334 bt338.1 bt338.2.1 bt338.2.2.1 bt338.2.2.2.1 bt338.2.2.2.2.1 bt338.2.2.2.2.2 a2).bind fun bt344 => ((laws_eqWord.f bt344.1 bt344.2.1 bt344.2.2.1 bt344.2.2.2.1 bt344.2.2.2.2.1 bt344.2.2.2.2.2.1 t323 t324 t325 t326 t327 t328).bind fun t352 => (if t352 = true then (laws_FnExactRead.j0 k (bt344.2.2.2.2.2.2 != t329) l0_0 l0_1 t331 t334) else (laws_FnExactRead.j0 k true l0_0 l0_1 t331 t334))))) = some r := H
  have A14 := Aside0.mk A140
  clear A140
  replace H := Option.bind_eq_some_iff.mp H
  obtain ⟨⟨t338, t339, t340, t341, t342, t343⟩, A150, H⟩ := H
  replace H : ((impl_Read.f k t331 t334 t338 t339 t340 t341 t342 t343 a2).bind fun bt344 => ((laws_eqWord.f bt344.1 bt344.2.1 bt344.2.2.1 bt344.2.2.2.1 bt344.2.2.2.2.1 bt344.2.2.2.2.2.1 t323 t324 t325 t326 t327 t328).bind fun t352 => (if t352 = true then (laws_FnExactRead.j0 k (bt344.2.2.2.2.2.2 != t329) l0_0 l0_1 t331 t334) else (laws_FnExactRead.j0 k true l0_0 l0_1 t331 t334)))) = some r := H
  have A15 := Aside0.mk A150
  clear A150
  replace H := Option.bind_eq_some_iff.mp H
  obtain ⟨⟨t344, t345, t346, t347, t348, t349, t350⟩, A160, H⟩ := H
  replace H : ((laws_eqWord.f t344 t345 t346 t347 t348 t349 t323 t324 t325 t326 t327 t328).bind fun t352 => (if t352 = true then (laws_FnExactRead.j0 k (t350 != t329) l0_0 l0_1 t331 t334) else (laws_FnExactRead.j0 k true l0_0 l0_1 t331 t334))) = some r := H
  have A16 := Aside0.mk A160
  clear A160
  have HC17 := Aside0.mk H
  clear H
  go_enter Try.func6, Try.ntmps6
  try go_wp2_with (first | ((with_reducible refine gate_dst (N := 3) rfl ?_); refine box_event ?hg (N := 3) ?hd (cs := #[.slice A0_0 l0_0.length c0_0, .slice A0_1 l0_1.length c0_1]) (t := 25) ?hr ?_; (case hd => rfl); (case hg => rfl); (case hr => first | (go_simp; done) | (go_simp; rfl)); intro gb308 hg w18 hbox hb; have n0_ := nbs HB hb; have n1_ := Aside0.mk (hbox); have n2_ := nge HB hg; have n3_ := nge HB hg; clear HB; have HB := n0_; have BK308 := n1_; have GW308 := n2_; have GE308 := n3_; clear n0_ n1_ n2_ n3_; clear hb hbox hg) | ((with_reducible refine gate_dst (N := 4) rfl ?_); refine box_event ?hg (N := 4) ?hd (cs := #[.int .i64 a1_0, .bool a1_1, .int .i64 a1_2, .int .i64 a1_3, .int .i64 a1_4, .int .i64 a1_5]) (t := 29) ?hr ?_; (case hd => rfl); (case hg => rfl); (case hr => first | (go_simp; done) | (go_simp; rfl)); intro gb309 hg w19 hbox hb; have n0_ := nblk BK308 hb; have n1_ := nbs HB hb; have n2_ := Aside0.mk (hbox); have n3_ := nge HB hg; have n4_ := nge HB hg; have n5_ := nlt BK308 hg; have n6_ := ngt BK308 hg; clear BK308 HB; have BK308 := n0_; have HB := n1_; have BK309 := n2_; have GW309 := n3_; have GE309 := n4_; have NB308_309 := n5_; have NB309_308 := n6_; clear n0_ n1_ n2_ n3_ n4_ n5_ n6_; clear hb hbox hg; have hnb20 := NB308_309.out; have hnc20 := NB309_308.out; have hcz21_0 : w19.cell? ⟨gb308, 0, none⟩ = some (.slice A0_0 l0_0.length c0_0) := (blk_cell BK308.out 0).trans rfl; have hcz21_1 : w19.cell? ⟨gb308, 1, none⟩ = some (.slice A0_1 l0_1.length c0_1) := (blk_cell BK308.out 1).trans rfl; have hfz21_0 := blk_frozen BK308.out 0; have hfz21_1 := blk_frozen BK308.out 1) | ((with_reducible refine gate_callee (f := 12) rfl ?_); refine goesM (some 15) rfl rfl Try.func12 (by kernel_rfl) rfl #[.agg #[.slice A0_0 l0_0.length c0_0, .slice A0_1 l0_1.length c0_1], .int .i64 1048576] rfl ?_; (with_reducible refine (laws_szMemory.calls _ _ l0_0 _ _ l0_1 1048576 t310 _ ?side1 ?side2 ?side3 ?side4 A4.out).mono ?_); (case side1 => repeat (first | exact (Kd.C_below HR0_0.out HB.out) | (with_reducible refine Kd.C_alloc ?_ _) | (with_reducible refine Kd.C_drewN ?_ _) | (with_reducible refine Kd.C_drew ?_))); (case side2 => exact HC0_0.out); (case side3 => repeat (first | exact (Kd.C_below HR0_1.out HB.out) | (with_reducible refine Kd.C_alloc ?_ _) | (with_reducible refine Kd.C_drewN ?_ _) | (with_reducible refine Kd.C_drew ?_))); (case side4 => exact HC0_1.out); rintro e w22 ⟨rfl, hb⟩; refine ⟨_, rfl, ?_⟩; have n0_ := nblk BK308 hb; have n1_ := nblk BK309 hb; have n2_ := nbs HB hb; clear BK308 BK309 HB; have BK308 := n0_; have BK309 := n1_; have HB := n2_; clear n0_ n1_ n2_; (try clear hb)))
  have n0_ := Aside0.mk (blk_drew BK308.out)
  have n1_ := Aside0.mk (blk_drew BK309.out)
  have n2_ := Aside0.mk (below_drew1 HB.out)
  clear BK308 BK309 HB
  have BK308 := n0_
  have BK309 := n1_
  have HB := n2_
  clear n0_ n1_ n2_
  refine start_ (n := 12) (S := fun w' => w'.cell? ⟨gb308, 0, none⟩ = some (.slice A0_0 l0_0.length c0_0) ∧ w'.cell? ⟨gb308, 1, none⟩ = some (.slice A0_1 l0_1.length c0_1) ∧ w'.cell? ⟨gb309, 0, none⟩ = some (.int .i64 a1_0) ∧ w'.cell? ⟨gb309, 1, none⟩ = some (.bool a1_1) ∧ w'.cell? ⟨gb309, 2, none⟩ = some (.int .i64 a1_2) ∧ w'.cell? ⟨gb309, 3, none⟩ = some (.int .i64 a1_3) ∧ w'.cell? ⟨gb309, 4, none⟩ = some (.int .i64 a1_4) ∧ w'.cell? ⟨gb309, 5, none⟩ = some (.int .i64 a1_5)) (ds := []) #[false, false, false, false, false, false, false, false, false, false, false, false] (by kernel_rfl) rfl rfl (c2 BK308 (c6e BK309)) (fun hHeld => ?_); refine with_tabW laws_FnExactRead.tab5 laws_FnExactRead.bits5 (fun HT_ HW_ => ?_)
  generalize w22.drew = w23 at BK308 BK309 HB hHeld ⊢
  refine pure_ (i := 4) (N := some 23) (v := ?_) (a' := ?_) #[false, false, false, false, true, false, false, false, false, false, false, false] rfl rfl (any_of HT_.out (by kernel_rfl)) (fun _ _ _ h => h) (Or.inl ⟨by rfl, ?_⟩) ?_ ?_
  rotate_left
  ·intro w'
   go_simp
   with_reducible rfl
  rotate_left
  ·simp only [Act.put, List.setIfInBounds_toArray, List.set_cons_zero, List.set_cons_succ, i64_w, i32_w]
   rfl
  refine take_ (i := 0) (N := some 19) (v := ?_) (a' := ?_) #[true, false, false, false, true, false, false, false, false, false, false, false] rfl rfl (take_ofW HT_.out HW_.out (by kernel_rfl)) (fun _ _ _ h => h) (Or.inl ⟨by rfl, ?_⟩) hHeld ?_ ?_
  rotate_left
  ·rintro w' ⟨s0, s1, s2, s3, s4, s5, s6, s7⟩
   go_simp
   with_reducible rfl
  rotate_left
  ·simp only [Act.put, List.setIfInBounds_toArray, List.set_cons_zero, List.set_cons_succ, i64_w, i32_w]
   rfl
  refine take_ (i := 2) (N := some 21) (v := ?_) (a' := ?_) #[true, false, true, false, true, false, false, false, false, false, false, false] rfl rfl (take_ofW HT_.out HW_.out (by kernel_rfl)) (fun _ _ _ h => h) (Or.inl ⟨by rfl, ?_⟩) hHeld ?_ ?_
  rotate_left
  ·rintro w' ⟨s0, s1, s2, s3, s4, s5, s6, s7⟩
   go_simp
   with_reducible rfl
  rotate_left
  ·simp only [Act.put, List.setIfInBounds_toArray, List.set_cons_zero, List.set_cons_succ, i64_w, i32_w]
   rfl
  refine join_ (σ := Value × Value × Nat) 2 #[true, true, true, true, true, true, true, true, true, true, false, false] (fun s_ => [(20, .agg #[s_.1, s_.2.1]), (22, .agg #[.int .i64 t317, .bool t318, .int .i64 t319, .int .i64 t320, .int .i64 t321, .int .i64 t322]), (24, .tuple #[.agg #[.int .i64 t323, .bool t324, .int .i64 t325, .int .i64 t326, .int .i64 t327, .int .i64 t328], .int .i64 t329]), (8, .pointer (some ⟨s_.2.2, 0, none⟩)), (18, .tuple #[.agg #[.int .i64 t323, .bool t324, .int .i64 t325, .int .i64 t326, .int .i64 t327, .int .i64 t328], .int .i64 t329]), (25, .agg #[.int .i64 t323, .bool t324, .int .i64 t325, .int .i64 t326, .int .i64 t327, .int .i64 t328]), (26, .int .i64 t329)]) (fun s_ w' => (w'.cell? ⟨gb308, 0, none⟩ = some (.slice A0_0 l0_0.length c0_0) ∧ w'.cell? ⟨gb308, 1, none⟩ = some (.slice A0_1 l0_1.length c0_1) ∧ w'.cell? ⟨gb309, 0, none⟩ = some (.int .i64 a1_0) ∧ w'.cell? ⟨gb309, 1, none⟩ = some (.bool a1_1) ∧ w'.cell? ⟨gb309, 2, none⟩ = some (.int .i64 a1_2) ∧ w'.cell? ⟨gb309, 3, none⟩ = some (.int .i64 a1_3) ∧ w'.cell? ⟨gb309, 4, none⟩ = some (.int .i64 a1_4) ∧ w'.cell? ⟨gb309, 5, none⟩ = some (.int .i64 a1_5)) ∧ (Kd.R k33 33 w' w.heap.size (fun k_ => k_ ≠ s_.2.2) s_.1 t311) ∧ (Kd.R Kd.bool 4 w' w.heap.size (fun _ => True) s_.2.1 t314) ∧ (w'.heap[gb308]? = some (.cells #[.slice A0_0 l0_0.length c0_0, .slice A0_1 l0_1.length c0_1] 25 (0, 0))) ∧ (w'.heap[gb309]? = some (.cells #[.int .i64 a1_0, .bool a1_1, .int .i64 a1_2, .int .i64 a1_3, .int .i64 a1_4, .int .i64 a1_5] 29 (0, 0))) ∧ (w'.heap[s_.2.2]? = some (.cells #[.int .i64 0, .bool false, .int .i64 0, .int .i64 0, .int .i64 0, .int .i64 0] 33 (0, 0))) ∧ (w.heap.size ≤ s_.2.2) ∧ (w.heap.size ≤ s_.2.2) ∧ (gb308 ≠ s_.2.2) ∧ (s_.2.2 ≠ gb308) ∧ (gb309 ≠ s_.2.2) ∧ (s_.2.2 ≠ gb309) ∧ (Below w.heap.size w w')) ?_ ?_
  rotate_left
  ·intro hCont
   refine two_ (i := 1) (j := 9) (Ni := some 20) (Nj := some 8) #[true, true, true, false, true, false, false, false, false, false, false, false] #[true, false, true, false, true, false, false, false, false, true, false, false] rfl rfl rfl rfl (two_of HT_.out (by kernel_rfl)) (by decide) (by decide) (fun K hK => ?_) (fun K hK => ?_)
   ·skip
    refine goesR Try.func14 (by kernel_rfl) rfl #[.agg #[.slice A0_0 l0_0.length c0_0, .slice A0_1 l0_1.length c0_1]] (by rfl) rfl rfl ?_
    with_reducible refine (laws_toMemory.calls k _ _ l0_0 _ _ l0_1 t311 t314 _ ?side1 ?side2 ?side3 ?side4 A11.out).mono ?_
    (case side1 => repeat (first | exact (Kd.C_below HR0_0.out HB.out) | (with_reducible refine Kd.C_alloc ?_ _) | (with_reducible refine Kd.C_drewN ?_ _) | (with_reducible refine Kd.C_drew ?_)))
    (case side2 => exact HC0_0.out)
    (case side3 => repeat (first | exact (Kd.C_below HR0_1.out HB.out) | (with_reducible refine Kd.C_alloc ?_ _) | (with_reducible refine Kd.C_drewN ?_ _) | (with_reducible refine Kd.C_drew ?_)))
    (case side4 => exact HC0_1.out)
    rintro e w24 ⟨v312, v315, rfl, ho0, ho1, hb⟩
    refine ⟨_, rfl, ?_⟩
    have n0_ := Aside0.mk (Kd.R_lower ho0 (below_size (by repeat (first | (with_reducible first | exact HB.out | apply below_alloc | apply pw_below_drewN | apply below_drew1 | refine below_set ?_ GE308.out | refine below_set ?_ GE309.out) | exact HB.out))))
    have n1_ := Aside0.mk (Kd.R_lower ho1 (below_size (by repeat (first | (with_reducible first | exact HB.out | apply below_alloc | apply pw_below_drewN | apply below_drew1 | refine below_set ?_ GE308.out | refine below_set ?_ GE309.out) | exact HB.out))))
    have n2_ := nblk BK308 hb
    have n3_ := nblk BK309 hb
    have n4_ := nbs HB hb
    clear BK308 BK309 HB
    have HO313 := n0_
    have HO316 := n1_
    have BK308 := n2_
    have BK309 := n3_
    have HB := n4_
    clear n0_ n1_ n2_ n3_ n4_
    (try clear hb)
    (try clear ho0)
    (try clear ho1)
    refine hK.out _ _ (c2 BK308 (c6e BK309)) (fun hHeld => ?_)
    clear hK K
    refine norm_ (a' := ?_) ?_ ?_
    rotate_left
    ·show Act.put _ (some 20) _ = _
     simp only [Act.put, List.setIfInBounds_toArray, List.set_cons_zero, List.set_cons_succ, i64_w, i32_w]
     rfl
    refine two_ (i := 3) (j := 9) (Ni := some 22) (Nj := some 8) #[true, true, true, true, true, false, false, false, false, false, false, false] #[true, true, true, false, true, false, false, false, false, true, false, false] rfl rfl rfl rfl (two_of HT_.out (by kernel_rfl)) (by decide) (by decide) (fun K hK => ?_) (fun K hK => ?_)
    ·skip
     refine goesR Try.func15 (by kernel_rfl) rfl #[.agg #[.int .i64 a1_0, .bool a1_1, .int .i64 a1_2, .int .i64 a1_3, .int .i64 a1_4, .int .i64 a1_5]] (by rfl) rfl rfl ?_
     with_reducible refine (laws_toWord.calls a1_0 a1_1 a1_2 a1_3 a1_4 a1_5 t317 t318 t319 t320 t321 t322 _ A12.out).mono ?_
     rintro e w25 ⟨rfl, hb⟩
     refine ⟨_, rfl, ?_⟩
     have n0_ := nR HO313 hb
     have n1_ := nR HO316 hb
     have n2_ := nblk BK308 hb
     have n3_ := nblk BK309 hb
     have n4_ := nbs HB hb
     clear HO313 HO316 BK308 BK309 HB
     have HO313 := n0_
     have HO316 := n1_
     have BK308 := n2_
     have BK309 := n3_
     have HB := n4_
     clear n0_ n1_ n2_ n3_ n4_
     (try clear hb)
     obtain ⟨Ao26, co26, eo26⟩ := Kd.R_slice HO313.out
     (first | subst eo26 | (injection eo26 with f1_ f2_ f3_; have f4_ := f1_.symm; have f5_ := f3_.symm; clear f1_ f2_ f3_; subst f4_; subst f5_))
     obtain ⟨Ao27, co27, eo27⟩ := Kd.R_slice HO316.out
     (first | subst eo27 | (injection eo27 with f1_ f2_ f3_; have f4_ := f1_.symm; have f5_ := f3_.symm; clear f1_ f2_ f3_; subst f4_; subst f5_))
     refine hK.out _ _ (c2 BK308 (c6e BK309)) (fun hHeld => ?_)
     clear hK K
     refine norm_ (a' := ?_) ?_ ?_
     rotate_left
     ·show Act.put _ (some 22) _ = _
      simp only [Act.put, List.setIfInBounds_toArray, List.set_cons_zero, List.set_cons_succ, i64_w, i32_w]
      rfl
     refine two_ (i := 5) (j := 9) (Ni := some 24) (Nj := some 8) #[true, true, true, true, true, true, false, false, false, false, false, false] #[true, true, true, true, true, false, false, false, false, true, false, false] rfl rfl rfl rfl (two_of HT_.out (by kernel_rfl)) (by decide) (by decide) (fun K hK => ?_) (fun K hK => ?_)
     ·skip
      refine goesR Try.func25 (by kernel_rfl) rfl #[.agg #[.slice Ao26 t311.length co26, .slice Ao27 t314.length co27], .agg #[.int .i64 t317, .bool t318, .int .i64 t319, .int .i64 t320, .int .i64 t321, .int .i64 t322], .int .i64 a2] (by rfl) rfl rfl ?_
      with_reducible refine (spec_Read.calls k _ _ t311 _ _ t314 t317 t318 t319 t320 t321 t322 a2 t323 t324 t325 t326 t327 t328 t329 _ ?side1 ?side2 ?side3 ?side4 A13.out).mono ?_
      (case side1 => repeat (first | exact (Kd.R_reads' HO313.out).2.2 | (with_reducible refine Kd.C_alloc ?_ _) | (with_reducible refine Kd.C_drewN ?_ _) | (with_reducible refine Kd.C_drew ?_)))
      (case side2 => exact (Kd.R_reads' HO313.out).2.1)
      (case side3 => repeat (first | exact (Kd.R_reads' HO316.out).2.2 | (with_reducible refine Kd.C_alloc ?_ _) | (with_reducible refine Kd.C_drewN ?_ _) | (with_reducible refine Kd.C_drew ?_)))
      (case side4 => exact (Kd.R_reads' HO316.out).2.1)
      rintro e w28 ⟨rfl, hb⟩
      refine ⟨_, rfl, ?_⟩
      have n0_ := nR HO313 hb
      have n1_ := nR HO316 hb
      have n2_ := nblk BK308 hb
      have n3_ := nblk BK309 hb
      have n4_ := nbs HB hb
      clear HO313 HO316 BK308 BK309 HB
      have HO313 := n0_
      have HO316 := n1_
      have BK308 := n2_
      have BK309 := n3_
      have HB := n4_
      clear n0_ n1_ n2_ n3_ n4_
      (try clear hb)
      refine hK.out _ _ (c2 BK308 (c6e BK309)) (fun hHeld => ?_)
      clear hK K
      refine norm_ (a' := ?_) ?_ ?_
      rotate_left
      ·show Act.put _ (some 24) _ = _
       simp only [Act.put, List.setIfInBounds_toArray, List.set_cons_zero, List.set_cons_succ, i64_w, i32_w]
       rfl
      refine pure_ (i := 6) (N := some 18) (v := ?_) (a' := ?_) #[true, true, true, true, true, true, true, false, false, false, false, false] rfl rfl (any_of HT_.out (by kernel_rfl)) (fun _ _ _ h => h) (Or.inl ⟨by rfl, ?_⟩) ?_ ?_
      rotate_left
      ·intro w'
       go_simp
       with_reducible rfl
      rotate_left
      ·simp only [Act.put, List.setIfInBounds_toArray, List.set_cons_zero, List.set_cons_succ, i64_w, i32_w]
       rfl
      refine pure_ (i := 7) (N := some 25) (v := ?_) (a' := ?_) #[true, true, true, true, true, true, true, true, false, false, false, false] rfl rfl (any_of HT_.out (by kernel_rfl)) (fun _ _ _ h => h) (Or.inl ⟨by rfl, ?_⟩) ?_ ?_
      rotate_left
      ·intro w'
       go_simp
       with_reducible rfl
      rotate_left
      ·simp only [Act.put, List.setIfInBounds_toArray, List.set_cons_zero, List.set_cons_succ, i64_w, i32_w]
       rfl
      refine pure_ (i := 8) (N := some 26) (v := ?_) (a' := ?_) #[true, true, true, true, true, true, true, true, true, false, false, false] rfl rfl (any_of HT_.out (by kernel_rfl)) (fun _ _ _ h => h) (Or.inl ⟨by rfl, ?_⟩) ?_ ?_
      rotate_left
      ·intro w'
       go_simp
       with_reducible rfl
      rotate_left
      ·simp only [Act.put, List.setIfInBounds_toArray, List.set_cons_zero, List.set_cons_succ, i64_w, i32_w]
       rfl
      refine one_ (i := 9) (N := some 8) #[true, true, true, true, true, true, true, true, true, true, false, false] rfl rfl (one_of HT_.out (by kernel_rfl)) (by decide) (fun K hK => ?_)
      refine box_step ?hg (N := 8) ?hd (cs := #[.int .i64 0, .bool false, .int .i64 0, .int .i64 0, .int .i64 0, .int .i64 0]) (t := 33) ?hr ?_; (case hd => rfl); (case hg => rfl); (case hr => first | (go_simp; done) | (go_simp; rfl))
      intro gb330 hg w29 hbox hb
      have n0_ := Aside0.mk (Kd.R_below (Kd.R_elderB (nRo HO313) gb330 (Nat.le_of_eq hg.symm)) hb)
      have n1_ := nR HO316 hb
      have n2_ := nblk BK308 hb
      have n3_ := nblk BK309 hb
      have n4_ := nbs HB hb
      have n5_ := Aside0.mk (hbox)
      have n6_ := nge HB hg
      have n7_ := nge HB hg
      have n8_ := nlt BK308 hg
      have n9_ := ngt BK308 hg
      have n10_ := nlt BK309 hg
      have n11_ := ngt BK309 hg
      clear HO313 HO316 BK308 BK309 HB
      have HO313 := n0_
      have HO316 := n1_
      have BK308 := n2_
      have BK309 := n3_
      have HB := n4_
      have BK330 := n5_
      have GW330 := n6_
      have GE330 := n7_
      have NB308_330 := n8_
      have NB330_308 := n9_
      have NB309_330 := n10_
      have NB330_309 := n11_
      clear n0_ n1_ n2_ n3_ n4_ n5_ n6_ n7_ n8_ n9_ n10_ n11_
      clear hb hbox hg
      refine hK.out _ _ (c2 BK308 (c6e BK309)) (fun hHeld => ?_)
      clear hK K
      refine norm_ (a' := ?_) ?_ ?_
      rotate_left
      ·show Act.put _ (some 8) _ = _
       simp only [Act.put, List.setIfInBounds_toArray, List.set_cons_zero, List.set_cons_succ, i64_w, i32_w]
       rfl
      exact norm_ (by simp only [putAll, Act.put, List.setIfInBounds_toArray, List.set_cons_zero, List.set_cons_succ]) (hCont (.slice Ao26 t311.length co26, .slice Ao27 t314.length co27, gb330) _ ⟨hHeld, (by (with_reducible repeat (first | apply Kd.R_alloc | apply Kd.R_drewN | apply Kd.R_drew)); exact Kd.R_mono HO313.out (fun _ hk => hk.2)), (nRo HO316), (nb BK308), (nb BK309), (nb BK330), GW330.out, GE330.out, NB308_330.out, NB330_308.out, NB309_330.out, NB330_309.out, (by repeat (first | (with_reducible first | exact HB.out | apply below_alloc | apply pw_below_drewN | apply below_drew1 | refine below_set ?_ GE308.out | refine below_set ?_ GE309.out | refine below_set ?_ GE330.out) | exact HB.out))⟩)
     ·skip
      refine box_step ?hg (N := 8) ?hd (cs := #[.int .i64 0, .bool false, .int .i64 0, .int .i64 0, .int .i64 0, .int .i64 0]) (t := 33) ?hr ?_; (case hd => rfl); (case hg => rfl); (case hr => first | (go_simp; done) | (go_simp; rfl))
      intro gb330 hg w26 hbox hb
      have n0_ := Aside0.mk (Kd.R_below (Kd.R_elderB (nRo HO313) gb330 (Nat.le_of_eq hg.symm)) hb)
      have n1_ := nR HO316 hb
      have n2_ := nblk BK308 hb
      have n3_ := nblk BK309 hb
      have n4_ := nbs HB hb
      have n5_ := Aside0.mk (hbox)
      have n6_ := nge HB hg
      have n7_ := nge HB hg
      have n8_ := nlt BK308 hg
      have n9_ := ngt BK308 hg
      have n10_ := nlt BK309 hg
      have n11_ := ngt BK309 hg
      clear HO313 HO316 BK308 BK309 HB
      have HO313 := n0_
      have HO316 := n1_
      have BK308 := n2_
      have BK309 := n3_
      have HB := n4_
      have BK330 := n5_
      have GW330 := n6_
      have GE330 := n7_
      have NB308_330 := n8_
      have NB330_308 := n9_
      have NB309_330 := n10_
      have NB330_309 := n11_
      clear n0_ n1_ n2_ n3_ n4_ n5_ n6_ n7_ n8_ n9_ n10_ n11_
      clear hb hbox hg
      obtain ⟨Ao27, co27, eo27⟩ := Kd.R_slice HO313.out
      (first | subst eo27 | (injection eo27 with f1_ f2_ f3_; have f4_ := f1_.symm; have f5_ := f3_.symm; clear f1_ f2_ f3_; subst f4_; subst f5_))
      obtain ⟨Ao28, co28, eo28⟩ := Kd.R_slice HO316.out
      (first | subst eo28 | (injection eo28 with f1_ f2_ f3_; have f4_ := f1_.symm; have f5_ := f3_.symm; clear f1_ f2_ f3_; subst f4_; subst f5_))
      refine hK.out _ _ (c2 BK308 (c6e BK309)) (fun hHeld => ?_)
      clear hK K
      refine norm_ (a' := ?_) ?_ ?_
      rotate_left
      ·show Act.put _ (some 8) _ = _
       simp only [Act.put, List.setIfInBounds_toArray, List.set_cons_zero, List.set_cons_succ, i64_w, i32_w]
       rfl
      refine one_ (i := 5) (N := some 24) #[true, true, true, true, true, true, false, false, false, true, false, false] rfl rfl (one_of HT_.out (by kernel_rfl)) (by decide) (fun K hK => ?_)
      refine goesR Try.func25 (by kernel_rfl) rfl #[.agg #[.slice Ao27 t311.length co27, .slice Ao28 t314.length co28], .agg #[.int .i64 t317, .bool t318, .int .i64 t319, .int .i64 t320, .int .i64 t321, .int .i64 t322], .int .i64 a2] (by rfl) rfl rfl ?_
      with_reducible refine (spec_Read.calls k _ _ t311 _ _ t314 t317 t318 t319 t320 t321 t322 a2 t323 t324 t325 t326 t327 t328 t329 _ ?side1 ?side2 ?side3 ?side4 A13.out).mono ?_
      (case side1 => repeat (first | exact (Kd.R_reads' HO313.out).2.2 | (with_reducible refine Kd.C_alloc ?_ _) | (with_reducible refine Kd.C_drewN ?_ _) | (with_reducible refine Kd.C_drew ?_)))
      (case side2 => exact (Kd.R_reads' HO313.out).2.1)
      (case side3 => repeat (first | exact (Kd.R_reads' HO316.out).2.2 | (with_reducible refine Kd.C_alloc ?_ _) | (with_reducible refine Kd.C_drewN ?_ _) | (with_reducible refine Kd.C_drew ?_)))
      (case side4 => exact (Kd.R_reads' HO316.out).2.1)
      rintro e w29 ⟨rfl, hb⟩
      refine ⟨_, rfl, ?_⟩
      have n0_ := nR HO313 hb
      have n1_ := nR HO316 hb
      have n2_ := nblk BK308 hb
      have n3_ := nblk BK309 hb
      have n4_ := nblk BK330 hb
      have n5_ := nbs HB hb
      clear HO313 HO316 BK308 BK309 BK330 HB
      have HO313 := n0_
      have HO316 := n1_
      have BK308 := n2_
      have BK309 := n3_
      have BK330 := n4_
      have HB := n5_
      clear n0_ n1_ n2_ n3_ n4_ n5_
      (try clear hb)
      refine hK.out _ _ (c2 BK308 (c6e BK309)) (fun hHeld => ?_)
      clear hK K
      refine norm_ (a' := ?_) ?_ ?_
      rotate_left
      ·show Act.put _ (some 24) _ = _
       simp only [Act.put, List.setIfInBounds_toArray, List.set_cons_zero, List.set_cons_succ, i64_w, i32_w]
       rfl
      refine pure_ (i := 6) (N := some 18) (v := ?_) (a' := ?_) #[true, true, true, true, true, true, true, false, false, true, false, false] rfl rfl (any_of HT_.out (by kernel_rfl)) (fun _ _ _ h => h) (Or.inl ⟨by rfl, ?_⟩) ?_ ?_
      rotate_left
      ·intro w'
       go_simp
       with_reducible rfl
      rotate_left
      ·simp only [Act.put, List.setIfInBounds_toArray, List.set_cons_zero, List.set_cons_succ, i64_w, i32_w]
       rfl
      refine pure_ (i := 7) (N := some 25) (v := ?_) (a' := ?_) #[true, true, true, true, true, true, true, true, false, true, false, false] rfl rfl (any_of HT_.out (by kernel_rfl)) (fun _ _ _ h => h) (Or.inl ⟨by rfl, ?_⟩) ?_ ?_
      rotate_left
      ·intro w'
       go_simp
       with_reducible rfl
      rotate_left
      ·simp only [Act.put, List.setIfInBounds_toArray, List.set_cons_zero, List.set_cons_succ, i64_w, i32_w]
       rfl
      refine pure_ (i := 8) (N := some 26) (v := ?_) (a' := ?_) #[true, true, true, true, true, true, true, true, true, true, false, false] rfl rfl (any_of HT_.out (by kernel_rfl)) (fun _ _ _ h => h) (Or.inl ⟨by rfl, ?_⟩) ?_ ?_
      rotate_left
      ·intro w'
       go_simp
       with_reducible rfl
      rotate_left
      ·simp only [Act.put, List.setIfInBounds_toArray, List.set_cons_zero, List.set_cons_succ, i64_w, i32_w]
       rfl
      exact norm_ (by simp only [putAll, Act.put, List.setIfInBounds_toArray, List.set_cons_zero, List.set_cons_succ]) (hCont (.slice Ao27 t311.length co27, .slice Ao28 t314.length co28, gb330) _ ⟨hHeld, (by (with_reducible repeat (first | apply Kd.R_alloc | apply Kd.R_drewN | apply Kd.R_drew)); exact Kd.R_mono HO313.out (fun _ hk => hk.2)), (nRo HO316), (nb BK308), (nb BK309), (nb BK330), GW330.out, GE330.out, NB308_330.out, NB330_308.out, NB309_330.out, NB330_309.out, (by repeat (first | (with_reducible first | exact HB.out | apply below_alloc | apply pw_below_drewN | apply below_drew1 | refine below_set ?_ GE308.out | refine below_set ?_ GE309.out | refine below_set ?_ GE330.out) | exact HB.out))⟩)
    ·skip
     refine box_step ?hg (N := 8) ?hd (cs := #[.int .i64 0, .bool false, .int .i64 0, .int .i64 0, .int .i64 0, .int .i64 0]) (t := 33) ?hr ?_; (case hd => rfl); (case hg => rfl); (case hr => first | (go_simp; done) | (go_simp; rfl))
     intro gb330 hg w25 hbox hb
     have n0_ := Aside0.mk (Kd.R_below (Kd.R_elderB (nRo HO313) gb330 (Nat.le_of_eq hg.symm)) hb)
     have n1_ := nR HO316 hb
     have n2_ := nblk BK308 hb
     have n3_ := nblk BK309 hb
     have n4_ := nbs HB hb
     have n5_ := Aside0.mk (hbox)
     have n6_ := nge HB hg
     have n7_ := nge HB hg
     have n8_ := nlt BK308 hg
     have n9_ := ngt BK308 hg
     have n10_ := nlt BK309 hg
     have n11_ := ngt BK309 hg
     clear HO313 HO316 BK308 BK309 HB
     have HO313 := n0_
     have HO316 := n1_
     have BK308 := n2_
     have BK309 := n3_
     have HB := n4_
     have BK330 := n5_
     have GW330 := n6_
     have GE330 := n7_
     have NB308_330 := n8_
     have NB330_308 := n9_
     have NB309_330 := n10_
     have NB330_309 := n11_
     clear n0_ n1_ n2_ n3_ n4_ n5_ n6_ n7_ n8_ n9_ n10_ n11_
     clear hb hbox hg
     refine hK.out _ _ (c2 BK308 (c6e BK309)) (fun hHeld => ?_)
     clear hK K
     refine norm_ (a' := ?_) ?_ ?_
     rotate_left
     ·show Act.put _ (some 8) _ = _
      simp only [Act.put, List.setIfInBounds_toArray, List.set_cons_zero, List.set_cons_succ, i64_w, i32_w]
      rfl
     refine one_ (i := 3) (N := some 22) #[true, true, true, true, true, false, false, false, false, true, false, false] rfl rfl (one_of HT_.out (by kernel_rfl)) (by decide) (fun K hK => ?_)
     refine goesR Try.func15 (by kernel_rfl) rfl #[.agg #[.int .i64 a1_0, .bool a1_1, .int .i64 a1_2, .int .i64 a1_3, .int .i64 a1_4, .int .i64 a1_5]] (by rfl) rfl rfl ?_
     with_reducible refine (laws_toWord.calls a1_0 a1_1 a1_2 a1_3 a1_4 a1_5 t317 t318 t319 t320 t321 t322 _ A12.out).mono ?_
     rintro e w26 ⟨rfl, hb⟩
     refine ⟨_, rfl, ?_⟩
     have n0_ := nR HO313 hb
     have n1_ := nR HO316 hb
     have n2_ := nblk BK308 hb
     have n3_ := nblk BK309 hb
     have n4_ := nblk BK330 hb
     have n5_ := nbs HB hb
     clear HO313 HO316 BK308 BK309 BK330 HB
     have HO313 := n0_
     have HO316 := n1_
     have BK308 := n2_
     have BK309 := n3_
     have BK330 := n4_
     have HB := n5_
     clear n0_ n1_ n2_ n3_ n4_ n5_
     (try clear hb)
     obtain ⟨Ao27, co27, eo27⟩ := Kd.R_slice HO313.out
     (first | subst eo27 | (injection eo27 with f1_ f2_ f3_; have f4_ := f1_.symm; have f5_ := f3_.symm; clear f1_ f2_ f3_; subst f4_; subst f5_))
     obtain ⟨Ao28, co28, eo28⟩ := Kd.R_slice HO316.out
     (first | subst eo28 | (injection eo28 with f1_ f2_ f3_; have f4_ := f1_.symm; have f5_ := f3_.symm; clear f1_ f2_ f3_; subst f4_; subst f5_))
     refine hK.out _ _ (c2 BK308 (c6e BK309)) (fun hHeld => ?_)
     clear hK K
     refine norm_ (a' := ?_) ?_ ?_
     rotate_left
     ·show Act.put _ (some 22) _ = _
      simp only [Act.put, List.setIfInBounds_toArray, List.set_cons_zero, List.set_cons_succ, i64_w, i32_w]
      rfl
     refine one_ (i := 5) (N := some 24) #[true, true, true, true, true, true, false, false, false, true, false, false] rfl rfl (one_of HT_.out (by kernel_rfl)) (by decide) (fun K hK => ?_)
     refine goesR Try.func25 (by kernel_rfl) rfl #[.agg #[.slice Ao27 t311.length co27, .slice Ao28 t314.length co28], .agg #[.int .i64 t317, .bool t318, .int .i64 t319, .int .i64 t320, .int .i64 t321, .int .i64 t322], .int .i64 a2] (by rfl) rfl rfl ?_
     with_reducible refine (spec_Read.calls k _ _ t311 _ _ t314 t317 t318 t319 t320 t321 t322 a2 t323 t324 t325 t326 t327 t328 t329 _ ?side1 ?side2 ?side3 ?side4 A13.out).mono ?_
     (case side1 => repeat (first | exact (Kd.R_reads' HO313.out).2.2 | (with_reducible refine Kd.C_alloc ?_ _) | (with_reducible refine Kd.C_drewN ?_ _) | (with_reducible refine Kd.C_drew ?_)))
     (case side2 => exact (Kd.R_reads' HO313.out).2.1)
     (case side3 => repeat (first | exact (Kd.R_reads' HO316.out).2.2 | (with_reducible refine Kd.C_alloc ?_ _) | (with_reducible refine Kd.C_drewN ?_ _) | (with_reducible refine Kd.C_drew ?_)))
     (case side4 => exact (Kd.R_reads' HO316.out).2.1)
     rintro e w29 ⟨rfl, hb⟩
     refine ⟨_, rfl, ?_⟩
     have n0_ := nR HO313 hb
     have n1_ := nR HO316 hb
     have n2_ := nblk BK308 hb
     have n3_ := nblk BK309 hb
     have n4_ := nblk BK330 hb
     have n5_ := nbs HB hb
     clear HO313 HO316 BK308 BK309 BK330 HB
     have HO313 := n0_
     have HO316 := n1_
     have BK308 := n2_
     have BK309 := n3_
     have BK330 := n4_
     have HB := n5_
     clear n0_ n1_ n2_ n3_ n4_ n5_
     (try clear hb)
     refine hK.out _ _ (c2 BK308 (c6e BK309)) (fun hHeld => ?_)
     clear hK K
     refine norm_ (a' := ?_) ?_ ?_
     rotate_left
     ·show Act.put _ (some 24) _ = _
      simp only [Act.put, List.setIfInBounds_toArray, List.set_cons_zero, List.set_cons_succ, i64_w, i32_w]
      rfl
     refine pure_ (i := 6) (N := some 18) (v := ?_) (a' := ?_) #[true, true, true, true, true, true, true, false, false, true, false, false] rfl rfl (any_of HT_.out (by kernel_rfl)) (fun _ _ _ h => h) (Or.inl ⟨by rfl, ?_⟩) ?_ ?_
     rotate_left
     ·intro w'
      go_simp
      with_reducible rfl
     rotate_left
     ·simp only [Act.put, List.setIfInBounds_toArray, List.set_cons_zero, List.set_cons_succ, i64_w, i32_w]
      rfl
     refine pure_ (i := 7) (N := some 25) (v := ?_) (a' := ?_) #[true, true, true, true, true, true, true, true, false, true, false, false] rfl rfl (any_of HT_.out (by kernel_rfl)) (fun _ _ _ h => h) (Or.inl ⟨by rfl, ?_⟩) ?_ ?_
     rotate_left
     ·intro w'
      go_simp
      with_reducible rfl
     rotate_left
     ·simp only [Act.put, List.setIfInBounds_toArray, List.set_cons_zero, List.set_cons_succ, i64_w, i32_w]
      rfl
     refine pure_ (i := 8) (N := some 26) (v := ?_) (a' := ?_) #[true, true, true, true, true, true, true, true, true, true, false, false] rfl rfl (any_of HT_.out (by kernel_rfl)) (fun _ _ _ h => h) (Or.inl ⟨by rfl, ?_⟩) ?_ ?_
     rotate_left
     ·intro w'
      go_simp
      with_reducible rfl
     rotate_left
     ·simp only [Act.put, List.setIfInBounds_toArray, List.set_cons_zero, List.set_cons_succ, i64_w, i32_w]
      rfl
     exact norm_ (by simp only [putAll, Act.put, List.setIfInBounds_toArray, List.set_cons_zero, List.set_cons_succ]) (hCont (.slice Ao27 t311.length co27, .slice Ao28 t314.length co28, gb330) _ ⟨hHeld, (by (with_reducible repeat (first | apply Kd.R_alloc | apply Kd.R_drewN | apply Kd.R_drew)); exact Kd.R_mono HO313.out (fun _ hk => hk.2)), (nRo HO316), (nb BK308), (nb BK309), (nb BK330), GW330.out, GE330.out, NB308_330.out, NB330_308.out, NB309_330.out, NB330_309.out, (by repeat (first | (with_reducible first | exact HB.out | apply below_alloc | apply pw_below_drewN | apply below_drew1 | refine below_set ?_ GE308.out | refine below_set ?_ GE309.out | refine below_set ?_ GE330.out) | exact HB.out))⟩)
   ·skip
    refine box_step ?hg (N := 8) ?hd (cs := #[.int .i64 0, .bool false, .int .i64 0, .int .i64 0, .int .i64 0, .int .i64 0]) (t := 33) ?hr ?_; (case hd => rfl); (case hg => rfl); (case hr => first | (go_simp; done) | (go_simp; rfl))
    intro gb330 hg w24 hbox hb
    have n0_ := nblk BK308 hb
    have n1_ := nblk BK309 hb
    have n2_ := nbs HB hb
    have n3_ := Aside0.mk (hbox)
    have n4_ := nge HB hg
    have n5_ := nge HB hg
    have n6_ := nlt BK308 hg
    have n7_ := ngt BK308 hg
    have n8_ := nlt BK309 hg
    have n9_ := ngt BK309 hg
    clear BK308 BK309 HB
    have BK308 := n0_
    have BK309 := n1_
    have HB := n2_
    have BK330 := n3_
    have GW330 := n4_
    have GE330 := n5_
    have NB308_330 := n6_
    have NB330_308 := n7_
    have NB309_330 := n8_
    have NB330_309 := n9_
    clear n0_ n1_ n2_ n3_ n4_ n5_ n6_ n7_ n8_ n9_
    clear hb hbox hg
    refine hK.out _ _ (c2 BK308 (c6e BK309)) (fun hHeld => ?_)
    clear hK K
    refine norm_ (a' := ?_) ?_ ?_
    rotate_left
    ·show Act.put _ (some 8) _ = _
     simp only [Act.put, List.setIfInBounds_toArray, List.set_cons_zero, List.set_cons_succ, i64_w, i32_w]
     rfl
    refine one_ (i := 1) (N := some 20) #[true, true, true, false, true, false, false, false, false, true, false, false] rfl rfl (one_of HT_.out (by kernel_rfl)) (by decide) (fun K hK => ?_)
    refine goesR Try.func14 (by kernel_rfl) rfl #[.agg #[.slice A0_0 l0_0.length c0_0, .slice A0_1 l0_1.length c0_1]] (by rfl) rfl rfl ?_
    with_reducible refine (laws_toMemory.calls k _ _ l0_0 _ _ l0_1 t311 t314 _ ?side1 ?side2 ?side3 ?side4 A11.out).mono ?_
    (case side1 => repeat (first | exact (Kd.C_below HR0_0.out HB.out) | (with_reducible refine Kd.C_alloc ?_ _) | (with_reducible refine Kd.C_drewN ?_ _) | (with_reducible refine Kd.C_drew ?_)))
    (case side2 => exact HC0_0.out)
    (case side3 => repeat (first | exact (Kd.C_below HR0_1.out HB.out) | (with_reducible refine Kd.C_alloc ?_ _) | (with_reducible refine Kd.C_drewN ?_ _) | (with_reducible refine Kd.C_drew ?_)))
    (case side4 => exact HC0_1.out)
    rintro e w25 ⟨v312, v315, rfl, ho0, ho1, hb⟩
    refine ⟨_, rfl, ?_⟩
    have n0_ := Aside0.mk (Kd.R_lower (Kd.R_newB ho0 (g := gb330) (o := .cells #[.int .i64 0, .bool false, .int .i64 0, .int .i64 0, .int .i64 0, .int .i64 0] 33 (0, 0)) (nb BK330)) (below_size (by repeat (first | (with_reducible first | exact HB.out | apply below_alloc | apply pw_below_drewN | apply below_drew1 | refine below_set ?_ GE308.out | refine below_set ?_ GE309.out | refine below_set ?_ GE330.out) | exact HB.out))))
    have n1_ := Aside0.mk (Kd.R_lower ho1 (below_size (by repeat (first | (with_reducible first | exact HB.out | apply below_alloc | apply pw_below_drewN | apply below_drew1 | refine below_set ?_ GE308.out | refine below_set ?_ GE309.out | refine below_set ?_ GE330.out) | exact HB.out))))
    have n2_ := nblk BK308 hb
    have n3_ := nblk BK309 hb
    have n4_ := nblk BK330 hb
    have n5_ := nbs HB hb
    clear BK308 BK309 BK330 HB
    have HO313 := n0_
    have HO316 := n1_
    have BK308 := n2_
    have BK309 := n3_
    have BK330 := n4_
    have HB := n5_
    clear n0_ n1_ n2_ n3_ n4_ n5_
    (try clear hb)
    (try clear ho0)
    (try clear ho1)
    refine hK.out _ _ (c2 BK308 (c6e BK309)) (fun hHeld => ?_)
    clear hK K
    refine norm_ (a' := ?_) ?_ ?_
    rotate_left
    ·show Act.put _ (some 20) _ = _
     simp only [Act.put, List.setIfInBounds_toArray, List.set_cons_zero, List.set_cons_succ, i64_w, i32_w]
     rfl
    refine one_ (i := 3) (N := some 22) #[true, true, true, true, true, false, false, false, false, true, false, false] rfl rfl (one_of HT_.out (by kernel_rfl)) (by decide) (fun K hK => ?_)
    refine goesR Try.func15 (by kernel_rfl) rfl #[.agg #[.int .i64 a1_0, .bool a1_1, .int .i64 a1_2, .int .i64 a1_3, .int .i64 a1_4, .int .i64 a1_5]] (by rfl) rfl rfl ?_
    with_reducible refine (laws_toWord.calls a1_0 a1_1 a1_2 a1_3 a1_4 a1_5 t317 t318 t319 t320 t321 t322 _ A12.out).mono ?_
    rintro e w26 ⟨rfl, hb⟩
    refine ⟨_, rfl, ?_⟩
    have n0_ := nR HO313 hb
    have n1_ := nR HO316 hb
    have n2_ := nblk BK308 hb
    have n3_ := nblk BK309 hb
    have n4_ := nblk BK330 hb
    have n5_ := nbs HB hb
    clear HO313 HO316 BK308 BK309 BK330 HB
    have HO313 := n0_
    have HO316 := n1_
    have BK308 := n2_
    have BK309 := n3_
    have BK330 := n4_
    have HB := n5_
    clear n0_ n1_ n2_ n3_ n4_ n5_
    (try clear hb)
    obtain ⟨Ao27, co27, eo27⟩ := Kd.R_slice HO313.out
    (first | subst eo27 | (injection eo27 with f1_ f2_ f3_; have f4_ := f1_.symm; have f5_ := f3_.symm; clear f1_ f2_ f3_; subst f4_; subst f5_))
    obtain ⟨Ao28, co28, eo28⟩ := Kd.R_slice HO316.out
    (first | subst eo28 | (injection eo28 with f1_ f2_ f3_; have f4_ := f1_.symm; have f5_ := f3_.symm; clear f1_ f2_ f3_; subst f4_; subst f5_))
    refine hK.out _ _ (c2 BK308 (c6e BK309)) (fun hHeld => ?_)
    clear hK K
    refine norm_ (a' := ?_) ?_ ?_
    rotate_left
    ·show Act.put _ (some 22) _ = _
     simp only [Act.put, List.setIfInBounds_toArray, List.set_cons_zero, List.set_cons_succ, i64_w, i32_w]
     rfl
    refine one_ (i := 5) (N := some 24) #[true, true, true, true, true, true, false, false, false, true, false, false] rfl rfl (one_of HT_.out (by kernel_rfl)) (by decide) (fun K hK => ?_)
    refine goesR Try.func25 (by kernel_rfl) rfl #[.agg #[.slice Ao27 t311.length co27, .slice Ao28 t314.length co28], .agg #[.int .i64 t317, .bool t318, .int .i64 t319, .int .i64 t320, .int .i64 t321, .int .i64 t322], .int .i64 a2] (by rfl) rfl rfl ?_
    with_reducible refine (spec_Read.calls k _ _ t311 _ _ t314 t317 t318 t319 t320 t321 t322 a2 t323 t324 t325 t326 t327 t328 t329 _ ?side1 ?side2 ?side3 ?side4 A13.out).mono ?_
    (case side1 => repeat (first | exact (Kd.R_reads' HO313.out).2.2 | (with_reducible refine Kd.C_alloc ?_ _) | (with_reducible refine Kd.C_drewN ?_ _) | (with_reducible refine Kd.C_drew ?_)))
    (case side2 => exact (Kd.R_reads' HO313.out).2.1)
    (case side3 => repeat (first | exact (Kd.R_reads' HO316.out).2.2 | (with_reducible refine Kd.C_alloc ?_ _) | (with_reducible refine Kd.C_drewN ?_ _) | (with_reducible refine Kd.C_drew ?_)))
    (case side4 => exact (Kd.R_reads' HO316.out).2.1)
    rintro e w29 ⟨rfl, hb⟩
    refine ⟨_, rfl, ?_⟩
    have n0_ := nR HO313 hb
    have n1_ := nR HO316 hb
    have n2_ := nblk BK308 hb
    have n3_ := nblk BK309 hb
    have n4_ := nblk BK330 hb
    have n5_ := nbs HB hb
    clear HO313 HO316 BK308 BK309 BK330 HB
    have HO313 := n0_
    have HO316 := n1_
    have BK308 := n2_
    have BK309 := n3_
    have BK330 := n4_
    have HB := n5_
    clear n0_ n1_ n2_ n3_ n4_ n5_
    (try clear hb)
    refine hK.out _ _ (c2 BK308 (c6e BK309)) (fun hHeld => ?_)
    clear hK K
    refine norm_ (a' := ?_) ?_ ?_
    rotate_left
    ·show Act.put _ (some 24) _ = _
     simp only [Act.put, List.setIfInBounds_toArray, List.set_cons_zero, List.set_cons_succ, i64_w, i32_w]
     rfl
    refine pure_ (i := 6) (N := some 18) (v := ?_) (a' := ?_) #[true, true, true, true, true, true, true, false, false, true, false, false] rfl rfl (any_of HT_.out (by kernel_rfl)) (fun _ _ _ h => h) (Or.inl ⟨by rfl, ?_⟩) ?_ ?_
    rotate_left
    ·intro w'
     go_simp
     with_reducible rfl
    rotate_left
    ·simp only [Act.put, List.setIfInBounds_toArray, List.set_cons_zero, List.set_cons_succ, i64_w, i32_w]
     rfl
    refine pure_ (i := 7) (N := some 25) (v := ?_) (a' := ?_) #[true, true, true, true, true, true, true, true, false, true, false, false] rfl rfl (any_of HT_.out (by kernel_rfl)) (fun _ _ _ h => h) (Or.inl ⟨by rfl, ?_⟩) ?_ ?_
    rotate_left
    ·intro w'
     go_simp
     with_reducible rfl
    rotate_left
    ·simp only [Act.put, List.setIfInBounds_toArray, List.set_cons_zero, List.set_cons_succ, i64_w, i32_w]
     rfl
    refine pure_ (i := 8) (N := some 26) (v := ?_) (a' := ?_) #[true, true, true, true, true, true, true, true, true, true, false, false] rfl rfl (any_of HT_.out (by kernel_rfl)) (fun _ _ _ h => h) (Or.inl ⟨by rfl, ?_⟩) ?_ ?_
    rotate_left
    ·intro w'
     go_simp
     with_reducible rfl
    rotate_left
    ·simp only [Act.put, List.setIfInBounds_toArray, List.set_cons_zero, List.set_cons_succ, i64_w, i32_w]
     rfl
    exact norm_ (by simp only [putAll, Act.put, List.setIfInBounds_toArray, List.set_cons_zero, List.set_cons_succ]) (hCont (.slice Ao27 t311.length co27, .slice Ao28 t314.length co28, gb330) _ ⟨hHeld, (by (with_reducible repeat (first | apply Kd.R_alloc | apply Kd.R_drewN | apply Kd.R_drew)); exact Kd.R_mono HO313.out (fun _ hk => hk.2)), (nRo HO316), (nb BK308), (nb BK309), (nb BK330), GW330.out, GE330.out, NB308_330.out, NB330_308.out, NB309_330.out, NB330_309.out, (by repeat (first | (with_reducible first | exact HB.out | apply below_alloc | apply pw_below_drewN | apply below_drew1 | refine below_set ?_ GE308.out | refine below_set ?_ GE309.out | refine below_set ?_ GE330.out) | exact HB.out))⟩)
  rintro ⟨v312, v315, gb330⟩ w30 ⟨hS_, h0_, h1_, h2_, h3_, h4_, h5_, h6_, h7_, h8_, h9_, h10_, h11_⟩
  have n0_ : Aside0 (Kd.R k33 33 w30 w.heap.size (fun k_ => k_ ≠ gb330) v312 t311) := ⟨h0_⟩
  have n1_ : Aside0 (Kd.R Kd.bool 4 w30 w.heap.size (fun _ => True) v315 t314) := ⟨h1_⟩
  have n2_ : Aside0 (w30.heap[gb308]? = some (.cells #[.slice A0_0 l0_0.length c0_0, .slice A0_1 l0_1.length c0_1] 25 (0, 0))) := ⟨h2_⟩
  have n3_ : Aside0 (w30.heap[gb309]? = some (.cells #[.int .i64 a1_0, .bool a1_1, .int .i64 a1_2, .int .i64 a1_3, .int .i64 a1_4, .int .i64 a1_5] 29 (0, 0))) := ⟨h3_⟩
  have n4_ : Aside0 (w30.heap[gb330]? = some (.cells #[.int .i64 0, .bool false, .int .i64 0, .int .i64 0, .int .i64 0, .int .i64 0] 33 (0, 0))) := ⟨h4_⟩
  have n5_ : Aside0 (w.heap.size ≤ gb330) := ⟨h5_⟩
  have n6_ : Aside0 (w.heap.size ≤ gb330) := ⟨h6_⟩
  have n7_ : Aside0 (gb308 ≠ gb330) := ⟨h7_⟩
  have n8_ : Aside0 (gb330 ≠ gb308) := ⟨h8_⟩
  have n9_ : Aside0 (gb309 ≠ gb330) := ⟨h9_⟩
  have n10_ : Aside0 (gb330 ≠ gb309) := ⟨h10_⟩
  have n11_ : Aside0 (Below w.heap.size w w30) := ⟨h11_⟩
  clear BK308 BK309 HB
  clear h0_ h1_ h2_ h3_ h4_ h5_ h6_ h7_ h8_ h9_ h10_ h11_
  have HO313 := n0_
  have HO316 := n1_
  have BK308 := n2_
  have BK309 := n3_
  have BK330 := n4_
  have GW330 := n5_
  have GE330 := n6_
  have NB308_330 := n7_
  have NB330_308 := n8_
  have NB309_330 := n9_
  have NB330_309 := n10_
  have HB := n11_
  clear n0_ n1_ n2_ n3_ n4_ n5_ n6_ n7_ n8_ n9_ n10_ n11_
  have hHeld : w30.cell? ⟨gb308, 0, none⟩ = some (.slice A0_0 l0_0.length c0_0) ∧ w30.cell? ⟨gb308, 1, none⟩ = some (.slice A0_1 l0_1.length c0_1) ∧ w30.cell? ⟨gb309, 0, none⟩ = some (.int .i64 a1_0) ∧ w30.cell? ⟨gb309, 1, none⟩ = some (.bool a1_1) ∧ w30.cell? ⟨gb309, 2, none⟩ = some (.int .i64 a1_2) ∧ w30.cell? ⟨gb309, 3, none⟩ = some (.int .i64 a1_3) ∧ w30.cell? ⟨gb309, 4, none⟩ = some (.int .i64 a1_4) ∧ w30.cell? ⟨gb309, 5, none⟩ = some (.int .i64 a1_5) := hS_
  refine norm_ (a' := ?_) ?_ ?_
  rotate_left
  ·simp only [putAll, Act.put, List.setIfInBounds_toArray, List.set_cons_zero, List.set_cons_succ]
   rfl
  refine one_ (i := 10) (N := none) #[true, true, true, true, true, true, true, true, true, true, true, false] rfl rfl (one_of HT_.out (by kernel_rfl)) (by decide) (fun K hK => ?_)
  have hs31 : w30.cell? ⟨gb330, 0, none⟩ = some (.int .i64 0) := (blk_cell BK330.out 0).trans rfl
  have hfs31 := blk_frozen BK330.out 0
  have hns31_0 := NB308_330.out
  have hns31_1 := NB309_330.out
  have hms31_0 := NB330_308.out
  have hms31_1 := NB330_309.out
  have hs32 : w30.cell? ⟨gb330, 1, none⟩ = some (.bool false) := (blk_cell BK330.out 1).trans rfl
  have hfs32 := blk_frozen BK330.out 1
  have hns32_0 := NB308_330.out
  have hns32_1 := NB309_330.out
  have hms32_0 := NB330_308.out
  have hms32_1 := NB330_309.out
  have hs33 : w30.cell? ⟨gb330, 2, none⟩ = some (.int .i64 0) := (blk_cell BK330.out 2).trans rfl
  have hfs33 := blk_frozen BK330.out 2
  have hns33_0 := NB308_330.out
  have hns33_1 := NB309_330.out
  have hms33_0 := NB330_308.out
  have hms33_1 := NB330_309.out
  have hs34 : w30.cell? ⟨gb330, 3, none⟩ = some (.int .i64 0) := (blk_cell BK330.out 3).trans rfl
  have hfs34 := blk_frozen BK330.out 3
  have hns34_0 := NB308_330.out
  have hns34_1 := NB309_330.out
  have hms34_0 := NB330_308.out
  have hms34_1 := NB330_309.out
  have hs35 : w30.cell? ⟨gb330, 4, none⟩ = some (.int .i64 0) := (blk_cell BK330.out 4).trans rfl
  have hfs35 := blk_frozen BK330.out 4
  have hns35_0 := NB308_330.out
  have hns35_1 := NB309_330.out
  have hms35_0 := NB330_308.out
  have hms35_1 := NB330_309.out
  have hs36 : w30.cell? ⟨gb330, 5, none⟩ = some (.int .i64 0) := (blk_cell BK330.out 5).trans rfl
  have hfs36 := blk_frozen BK330.out 5
  have hns36_0 := NB308_330.out
  have hns36_1 := NB309_330.out
  have hms36_0 := NB330_308.out
  have hms36_1 := NB330_309.out
  refine skip_ (w1 := ?_) (by rfl) rfl ?_ ?_
  rotate_left
  ·go_simp
   rfl
  refine hK.out _ _ ⟨(g6 NB308_330.out hHeld.1), (g6 NB308_330.out hHeld.2.1), (g6 NB309_330.out hHeld.2.2.1), (g6 NB309_330.out hHeld.2.2.2.1), (g6 NB309_330.out hHeld.2.2.2.2.1), (g6 NB309_330.out hHeld.2.2.2.2.2.1), (g6 NB309_330.out hHeld.2.2.2.2.2.2.1), (g6 NB309_330.out hHeld.2.2.2.2.2.2.2)⟩ (fun hHeld => ?_)
  clear hK K
  refine pure_ (i := 11) (N := some 9) (v := ?_) (a' := ?_) #[true, true, true, true, true, true, true, true, true, true, true, true] rfl rfl (any_of HT_.out (by kernel_rfl)) (fun _ _ _ h => h) (Or.inl ⟨by rfl, ?_⟩) ?_ ?_
  rotate_left
  ·intro w'
   go_simp
   with_reducible rfl
  rotate_left
  ·simp only [Act.put, List.setIfInBounds_toArray, List.set_cons_zero, List.set_cons_succ, i64_w, i32_w]
   rfl
  refine done_ (done_of HT_.out (by kernel_rfl)) ?_
  have hnb37 := NB308_330.out
  have hnc37 := NB330_308.out
  have hcz38_0 : w30.cell? ⟨gb308, 0, none⟩ = some (.slice A0_0 l0_0.length c0_0) := (blk_cell BK308.out 0).trans rfl
  have hcz38_1 : w30.cell? ⟨gb308, 1, none⟩ = some (.slice A0_1 l0_1.length c0_1) := (blk_cell BK308.out 1).trans rfl
  have hfz38_0 := blk_frozen BK308.out 0
  have hfz38_1 := blk_frozen BK308.out 1
  try go_wp2_with (first | ((with_reducible refine gate_callee (f := 14) rfl ?_); refine goesM (some 28) rfl rfl Try.func14 (by kernel_rfl) rfl #[.agg #[.slice A0_0 l0_0.length c0_0, .slice A0_1 l0_1.length c0_1]] rfl ?_; (with_reducible refine (laws_toMemory.calls k _ _ l0_0 _ _ l0_1 t331 t334 _ ?side1 ?side2 ?side3 ?side4 A14.out).mono ?_); (case side1 => exact Kd.C_below HR0_0.out (by repeat (first | (with_reducible first | exact HB.out | apply below_alloc | apply pw_below_drewN | apply below_drew1 | refine below_set ?_ GE308.out | refine below_set ?_ GE309.out | refine below_set ?_ GE330.out) | exact HB.out))); (case side2 => exact HC0_0.out); (case side3 => exact Kd.C_below HR0_1.out (by repeat (first | (with_reducible first | exact HB.out | apply below_alloc | apply pw_below_drewN | apply below_drew1 | refine below_set ?_ GE308.out | refine below_set ?_ GE309.out | refine below_set ?_ GE330.out) | exact HB.out))); (case side4 => exact HC0_1.out); rintro e w39 ⟨v332, v335, rfl, ho0, ho1, hb⟩; refine ⟨_, rfl, ?_⟩; have n0_ := Aside0.mk (Kd.R_elder' (by (with_reducible repeat (first | apply Kd.R_alloc | apply Kd.R_drewN | apply Kd.R_drew)); exact (f6 (Kd.R_mono HO313.out (fun k_ hk => (⟨hk, hk⟩ : _ ∧ k_ ≠ gb330))))) (Kd.R_base ho0) hb); have n1_ := Aside0.mk (Kd.R_elder' (by (with_reducible repeat (first | apply Kd.R_alloc | apply Kd.R_drewN | apply Kd.R_drew)); exact (f6 (Kd.R_types HO316.out BK330.out (by decide)))) (Kd.R_base ho1) hb); have n2_ := Aside0.mk (Kd.R_lower (Kd.R_newB (Kd.R_new' ho0 (Kd.R_lt (by (with_reducible repeat (first | apply Kd.R_alloc | apply Kd.R_drewN | apply Kd.R_drew)); exact (f6 (Kd.R_mono HO313.out (fun k_ hk => (⟨hk, hk⟩ : _ ∧ k_ ≠ gb330))))))) (g := gb330) (o := .cells #[.int .i64 t323, .bool t324, .int .i64 t325, .int .i64 t326, .int .i64 t327, .int .i64 t328] 33 (0, 0)) (by (with_reducible repeat (first | refine blk_drewN ?_ _ | refine blk_drew ?_ | refine blk_alloc ?_ _)); refine blk_put (cs := #[.int .i64 t323, .bool t324, .int .i64 t325, .int .i64 t326, .int .i64 t327, .int .i64 0]) ?_ 5 _ rfl; (with_reducible repeat (first | refine blk_drewN ?_ _ | refine blk_drew ?_ | refine blk_alloc ?_ _)); refine blk_put (cs := #[.int .i64 t323, .bool t324, .int .i64 t325, .int .i64 t326, .int .i64 0, .int .i64 0]) ?_ 4 _ rfl; (with_reducible repeat (first | refine blk_drewN ?_ _ | refine blk_drew ?_ | refine blk_alloc ?_ _)); refine blk_put (cs := #[.int .i64 t323, .bool t324, .int .i64 t325, .int .i64 0, .int .i64 0, .int .i64 0]) ?_ 3 _ rfl; (with_reducible repeat (first | refine blk_drewN ?_ _ | refine blk_drew ?_ | refine blk_alloc ?_ _)); refine blk_put (cs := #[.int .i64 t323, .bool t324, .int .i64 0, .int .i64 0, .int .i64 0, .int .i64 0]) ?_ 2 _ rfl; (with_reducible repeat (first | refine blk_drewN ?_ _ | refine blk_drew ?_ | refine blk_alloc ?_ _)); refine blk_put (cs := #[.int .i64 t323, .bool false, .int .i64 0, .int .i64 0, .int .i64 0, .int .i64 0]) ?_ 1 _ rfl; (with_reducible repeat (first | refine blk_drewN ?_ _ | refine blk_drew ?_ | refine blk_alloc ?_ _)); refine blk_put (cs := #[.int .i64 0, .bool false, .int .i64 0, .int .i64 0, .int .i64 0, .int .i64 0]) ?_ 0 _ rfl; (with_reducible repeat (first | refine blk_drewN ?_ _ | refine blk_drew ?_ | refine blk_alloc ?_ _)); exact BK330.out)) (below_size (by repeat (first | (with_reducible first | exact HB.out | apply below_alloc | apply pw_below_drewN | apply below_drew1 | refine below_set ?_ GE308.out | refine below_set ?_ GE309.out | refine below_set ?_ GE330.out) | exact HB.out)))); have n3_ := Aside0.mk (Kd.R_lower (Kd.R_new' ho1 (Kd.R_lt (by (with_reducible repeat (first | apply Kd.R_alloc | apply Kd.R_drewN | apply Kd.R_drew)); exact (f6 (Kd.R_types HO316.out BK330.out (by decide)))))) (below_size (by repeat (first | (with_reducible first | exact HB.out | apply below_alloc | apply pw_below_drewN | apply below_drew1 | refine below_set ?_ GE308.out | refine below_set ?_ GE309.out | refine below_set ?_ GE330.out) | exact HB.out)))); have n4_ := nblk BK308 hb; have n5_ := nblk BK309 hb; have n6_ := Aside0.mk (blk_below (g := gb330) (o := .cells #[.int .i64 t323, .bool t324, .int .i64 t325, .int .i64 t326, .int .i64 t327, .int .i64 t328] 33 (0, 0)) (by (with_reducible repeat (first | refine blk_drewN ?_ _ | refine blk_drew ?_ | refine blk_alloc ?_ _)); refine blk_put (cs := #[.int .i64 t323, .bool t324, .int .i64 t325, .int .i64 t326, .int .i64 t327, .int .i64 0]) ?_ 5 _ rfl; (with_reducible repeat (first | refine blk_drewN ?_ _ | refine blk_drew ?_ | refine blk_alloc ?_ _)); refine blk_put (cs := #[.int .i64 t323, .bool t324, .int .i64 t325, .int .i64 t326, .int .i64 0, .int .i64 0]) ?_ 4 _ rfl; (with_reducible repeat (first | refine blk_drewN ?_ _ | refine blk_drew ?_ | refine blk_alloc ?_ _)); refine blk_put (cs := #[.int .i64 t323, .bool t324, .int .i64 t325, .int .i64 0, .int .i64 0, .int .i64 0]) ?_ 3 _ rfl; (with_reducible repeat (first | refine blk_drewN ?_ _ | refine blk_drew ?_ | refine blk_alloc ?_ _)); refine blk_put (cs := #[.int .i64 t323, .bool t324, .int .i64 0, .int .i64 0, .int .i64 0, .int .i64 0]) ?_ 2 _ rfl; (with_reducible repeat (first | refine blk_drewN ?_ _ | refine blk_drew ?_ | refine blk_alloc ?_ _)); refine blk_put (cs := #[.int .i64 t323, .bool false, .int .i64 0, .int .i64 0, .int .i64 0, .int .i64 0]) ?_ 1 _ rfl; (with_reducible repeat (first | refine blk_drewN ?_ _ | refine blk_drew ?_ | refine blk_alloc ?_ _)); refine blk_put (cs := #[.int .i64 0, .bool false, .int .i64 0, .int .i64 0, .int .i64 0, .int .i64 0]) ?_ 0 _ rfl; (with_reducible repeat (first | refine blk_drewN ?_ _ | refine blk_drew ?_ | refine blk_alloc ?_ _)); exact BK330.out) hb); have n7_ := nbs HB hb; clear HO313 HO316 BK308 BK309 BK330 HB; have HO313 := n0_; have HO316 := n1_; have HO333 := n2_; have HO336 := n3_; have BK308 := n4_; have BK309 := n5_; have BK330 := n6_; have HB := n7_; clear n0_ n1_ n2_ n3_ n4_ n5_ n6_ n7_; (try clear hb); (try clear ho0); (try clear ho1)) | ((with_reducible refine gate_dst (N := 10) rfl ?_); refine box_event ?hg (N := 10) ?hd (cs := #[.slice none 0 0, .slice none 0 0]) (t := 37) ?hr ?_; (case hd => rfl); (case hg => rfl); (case hr => first | (go_simp; done) | (go_simp; rfl)); intro gb337 hg w40 hbox hb; have n0_ := nR HO313 hb; have n1_ := nR HO316 hb; have n2_ := nR HO333 hb; have n3_ := nR HO336 hb; have n4_ := nblk BK308 hb; have n5_ := nblk BK309 hb; have n6_ := nblk BK330 hb; have n7_ := nbs HB hb; have n8_ := Aside0.mk (hbox); have n9_ := nge HB hg; have n10_ := nge HB hg; have n11_ := nlt BK308 hg; have n12_ := ngt BK308 hg; have n13_ := nlt BK309 hg; have n14_ := ngt BK309 hg; have n15_ := nlt BK330 hg; have n16_ := ngt BK330 hg; clear HO313 HO316 HO333 HO336 BK308 BK309 BK330 HB; have HO313 := n0_; have HO316 := n1_; have HO333 := n2_; have HO336 := n3_; have BK308 := n4_; have BK309 := n5_; have BK330 := n6_; have HB := n7_; have BK337 := n8_; have GW337 := n9_; have GE337 := n10_; have NB308_337 := n11_; have NB337_308 := n12_; have NB309_337 := n13_; have NB337_309 := n14_; have NB330_337 := n15_; have NB337_330 := n16_; clear n0_ n1_ n2_ n3_ n4_ n5_ n6_ n7_ n8_ n9_ n10_ n11_ n12_ n13_ n14_ n15_ n16_; clear hb hbox hg; obtain ⟨Ao41, co41, eo41⟩ := Kd.R_slice HO333.out; subst eo41; have hnb42 := NB337_308.out; have hnc42 := NB308_337.out; have hnb43 := NB337_309.out; have hnc43 := NB309_337.out; have hnb44 := NB337_330.out; have hnc44 := NB330_337.out; have hcz45_0 : w40.cell? ⟨gb337, 0, none⟩ = some (.slice none 0 0) := (blk_cell BK337.out 0).trans rfl; have hcz45_1 : w40.cell? ⟨gb337, 1, none⟩ = some (.slice none 0 0) := (blk_cell BK337.out 1).trans rfl; have hfz45_0 := blk_frozen BK337.out 0; have hfz45_1 := blk_frozen BK337.out 1; obtain ⟨Ao46, co46, eo46⟩ := Kd.R_slice HO336.out; subst eo46))
  have n0_ : Aside0 (Kd.R k33 33 ((w40.setCell ⟨gb337, 0, none⟩ (.slice Ao41 t331.length co41)).setCell ⟨gb337, 1, none⟩ (.slice Ao46 t334.length co46)) w.heap.size (fun k_ => some k_ ≠ (.slice Ao41 t331.length co41 : Value).ownBlock ∧ k_ ≠ gb330) v312 t311) := ⟨by (with_reducible repeat (first | apply Kd.R_alloc | apply Kd.R_drewN | apply Kd.R_drew)); exact Kd.R_mono (Kd.R_far (p := ⟨gb337, 1, none⟩) (Kd.R_far (p := ⟨gb337, 0, none⟩) (Kd.R_types HO313.out BK337.out (by decide)) (fun _ hk => hk.2) (.slice Ao41 t331.length co41)) (fun _ hk => hk.2) (.slice Ao46 t334.length co46)) (fun _ hk => ⟨hk.1.2, hk.1.1⟩)⟩
  have n1_ : Aside0 (Kd.R Kd.bool 4 ((w40.setCell ⟨gb337, 0, none⟩ (.slice Ao41 t331.length co41)).setCell ⟨gb337, 1, none⟩ (.slice Ao46 t334.length co46)) w.heap.size (fun k_ => some k_ ≠ (.slice Ao46 t334.length co46 : Value).ownBlock) v315 t314) := ⟨by (with_reducible repeat (first | apply Kd.R_alloc | apply Kd.R_drewN | apply Kd.R_drew)); exact Kd.R_mono (Kd.R_far (p := ⟨gb337, 1, none⟩) (Kd.R_far (p := ⟨gb337, 0, none⟩) (Kd.R_types HO316.out BK337.out (by decide)) (fun _ hk => hk.2) (.slice Ao41 t331.length co41)) (fun _ hk => hk.2) (.slice Ao46 t334.length co46)) (fun _ hk => hk.1.2)⟩
  have n2_ : Aside0 (Kd.R k33 33 ((w40.setCell ⟨gb337, 0, none⟩ (.slice Ao41 t331.length co41)).setCell ⟨gb337, 1, none⟩ (.slice Ao46 t334.length co46)) w.heap.size (fun k_ => some k_ ≠ (v312 : Value).ownBlock ∧ k_ ≠ gb330) (.slice Ao41 t331.length co41) t331) := ⟨by (with_reducible repeat (first | apply Kd.R_alloc | apply Kd.R_drewN | apply Kd.R_drew)); exact Kd.R_mono (Kd.R_far (p := ⟨gb337, 1, none⟩) (Kd.R_far (p := ⟨gb337, 0, none⟩) (Kd.R_types HO333.out BK337.out (by decide)) (fun _ hk => hk.2) (.slice Ao41 t331.length co41)) (fun _ hk => hk.2) (.slice Ao46 t334.length co46)) (fun _ hk => ⟨hk.1.1.2, hk.1.2⟩)⟩
  have n3_ : Aside0 (Kd.R Kd.bool 4 ((w40.setCell ⟨gb337, 0, none⟩ (.slice Ao41 t331.length co41)).setCell ⟨gb337, 1, none⟩ (.slice Ao46 t334.length co46)) w.heap.size (fun k_ => some k_ ≠ (v315 : Value).ownBlock) (.slice Ao46 t334.length co46) t334) := ⟨by (with_reducible repeat (first | apply Kd.R_alloc | apply Kd.R_drewN | apply Kd.R_drew)); exact Kd.R_mono (Kd.R_far (p := ⟨gb337, 1, none⟩) (Kd.R_far (p := ⟨gb337, 0, none⟩) (Kd.R_types HO336.out BK337.out (by decide)) (fun _ hk => hk.2) (.slice Ao41 t331.length co41)) (fun _ hk => hk.2) (.slice Ao46 t334.length co46)) (fun _ hk => hk.1.2)⟩
  have n4_ : Aside0 (((w40.setCell ⟨gb337, 0, none⟩ (.slice Ao41 t331.length co41)).setCell ⟨gb337, 1, none⟩ (.slice Ao46 t334.length co46)).heap[gb308]? = some (.cells #[.slice A0_0 l0_0.length c0_0, .slice A0_1 l0_1.length c0_1] 25 (0, 0))) := ⟨by (with_reducible repeat (first | refine blk_drewN ?_ _ | refine blk_drew ?_ | refine blk_alloc ?_ _)); refine blk_far ?_ NB308_337.out _; (with_reducible repeat (first | refine blk_drewN ?_ _ | refine blk_drew ?_ | refine blk_alloc ?_ _)); refine blk_far ?_ NB308_337.out _; (with_reducible repeat (first | refine blk_drewN ?_ _ | refine blk_drew ?_ | refine blk_alloc ?_ _)); exact BK308.out⟩
  have n5_ : Aside0 (((w40.setCell ⟨gb337, 0, none⟩ (.slice Ao41 t331.length co41)).setCell ⟨gb337, 1, none⟩ (.slice Ao46 t334.length co46)).heap[gb309]? = some (.cells #[.int .i64 a1_0, .bool a1_1, .int .i64 a1_2, .int .i64 a1_3, .int .i64 a1_4, .int .i64 a1_5] 29 (0, 0))) := ⟨by (with_reducible repeat (first | refine blk_drewN ?_ _ | refine blk_drew ?_ | refine blk_alloc ?_ _)); refine blk_far ?_ NB309_337.out _; (with_reducible repeat (first | refine blk_drewN ?_ _ | refine blk_drew ?_ | refine blk_alloc ?_ _)); refine blk_far ?_ NB309_337.out _; (with_reducible repeat (first | refine blk_drewN ?_ _ | refine blk_drew ?_ | refine blk_alloc ?_ _)); exact BK309.out⟩
  have n6_ : Aside0 (((w40.setCell ⟨gb337, 0, none⟩ (.slice Ao41 t331.length co41)).setCell ⟨gb337, 1, none⟩ (.slice Ao46 t334.length co46)).heap[gb330]? = some (.cells #[.int .i64 t323, .bool t324, .int .i64 t325, .int .i64 t326, .int .i64 t327, .int .i64 t328] 33 (0, 0))) := ⟨by (with_reducible repeat (first | refine blk_drewN ?_ _ | refine blk_drew ?_ | refine blk_alloc ?_ _)); refine blk_far ?_ NB330_337.out _; (with_reducible repeat (first | refine blk_drewN ?_ _ | refine blk_drew ?_ | refine blk_alloc ?_ _)); refine blk_far ?_ NB330_337.out _; (with_reducible repeat (first | refine blk_drewN ?_ _ | refine blk_drew ?_ | refine blk_alloc ?_ _)); exact BK330.out⟩
  have n7_ : Aside0 (((w40.setCell ⟨gb337, 0, none⟩ (.slice Ao41 t331.length co41)).setCell ⟨gb337, 1, none⟩ (.slice Ao46 t334.length co46)).heap[gb337]? = some (.cells #[.slice Ao41 t331.length co41, .slice Ao46 t334.length co46] 37 (0, 0))) := ⟨by (with_reducible repeat (first | refine blk_drewN ?_ _ | refine blk_drew ?_ | refine blk_alloc ?_ _)); refine blk_put (cs := #[.slice Ao41 t331.length co41, .slice none 0 0]) ?_ 1 _ rfl; (with_reducible repeat (first | refine blk_drewN ?_ _ | refine blk_drew ?_ | refine blk_alloc ?_ _)); refine blk_put (cs := #[.slice none 0 0, .slice none 0 0]) ?_ 0 _ rfl; (with_reducible repeat (first | refine blk_drewN ?_ _ | refine blk_drew ?_ | refine blk_alloc ?_ _)); exact BK337.out⟩
  have n8_ : Aside0 (Below w.heap.size w ((w40.setCell ⟨gb337, 0, none⟩ (.slice Ao41 t331.length co41)).setCell ⟨gb337, 1, none⟩ (.slice Ao46 t334.length co46))) := ⟨by repeat (first | (with_reducible first | exact HB.out | apply below_alloc | apply pw_below_drewN | apply below_drew1 | refine below_set ?_ GE308.out | refine below_set ?_ GE309.out | refine below_set ?_ GE330.out | refine below_set ?_ GE337.out) | exact HB.out)⟩
  (try clear HO313)
  (try clear HO316)
  (try clear HO333)
  (try clear HO336)
  (try clear BK308)
  (try clear BK309)
  (try clear BK330)
  (try clear BK337)
  (try clear HB)
  generalize ((w40.setCell ⟨gb337, 0, none⟩ (.slice Ao41 t331.length co41)).setCell ⟨gb337, 1, none⟩ (.slice Ao46 t334.length co46)) = w47 at n0_ n1_ n2_ n3_ n4_ n5_ n6_ n7_ n8_ ⊢
  have HO313 := n0_
  have HO316 := n1_
  have HO333 := n2_
  have HO336 := n3_
  have BK308 := n4_
  have BK309 := n5_
  have BK330 := n6_
  have BK337 := n7_
  have HB := n8_
  clear n0_ n1_ n2_ n3_ n4_ n5_ n6_ n7_ n8_
  have n0_ := Aside0.mk (Kd.R_drew HO313.out)
  have n1_ := Aside0.mk (Kd.R_drew HO316.out)
  have n2_ := Aside0.mk (Kd.R_drew HO333.out)
  have n3_ := Aside0.mk (Kd.R_drew HO336.out)
  have n4_ := Aside0.mk (blk_drew BK308.out)
  have n5_ := Aside0.mk (blk_drew BK309.out)
  have n6_ := Aside0.mk (blk_drew BK330.out)
  have n7_ := Aside0.mk (blk_drew BK337.out)
  have n8_ := Aside0.mk (below_drew1 HB.out)
  clear HO313 HO316 HO333 HO336 BK308 BK309 BK330 BK337 HB
  have HO313 := n0_
  have HO316 := n1_
  have HO333 := n2_
  have HO336 := n3_
  have BK308 := n4_
  have BK309 := n5_
  have BK330 := n6_
  have BK337 := n7_
  have HB := n8_
  clear n0_ n1_ n2_ n3_ n4_ n5_ n6_ n7_ n8_
  refine start_ (n := 11) (S := fun w' => w'.cell? ⟨gb337, 0, none⟩ = some (.slice Ao41 t331.length co41) ∧ w'.cell? ⟨gb337, 1, none⟩ = some (.slice Ao46 t334.length co46) ∧ w'.cell? ⟨gb309, 0, none⟩ = some (.int .i64 a1_0) ∧ w'.cell? ⟨gb309, 1, none⟩ = some (.bool a1_1) ∧ w'.cell? ⟨gb309, 2, none⟩ = some (.int .i64 a1_2) ∧ w'.cell? ⟨gb309, 3, none⟩ = some (.int .i64 a1_3) ∧ w'.cell? ⟨gb309, 4, none⟩ = some (.int .i64 a1_4) ∧ w'.cell? ⟨gb309, 5, none⟩ = some (.int .i64 a1_5)) (ds := []) #[false, false, false, false, false, false, false, false, false, false, false] (by kernel_rfl) rfl rfl (c2 BK337 (c6e BK309)) (fun hHeld => ?_); refine with_tabW laws_FnExactRead.tab7 laws_FnExactRead.bits7 (fun HT_ HW_ => ?_)
  generalize w47.drew = w48 at HO313 HO316 HO333 HO336 BK308 BK309 BK330 BK337 HB hHeld ⊢
  refine pure_ (i := 3) (N := some 33) (v := ?_) (a' := ?_) #[false, false, false, true, false, false, false, false, false, false, false] rfl rfl (any_of HT_.out (by kernel_rfl)) (fun _ _ _ h => h) (Or.inl ⟨by rfl, ?_⟩) ?_ ?_
  rotate_left
  ·intro w'
   go_simp
   with_reducible rfl
  rotate_left
  ·simp only [Act.put, List.setIfInBounds_toArray, List.set_cons_zero, List.set_cons_succ, i64_w, i32_w]
   rfl
  refine take_ (i := 0) (N := some 30) (v := ?_) (a' := ?_) #[true, false, false, true, false, false, false, false, false, false, false] rfl rfl (take_ofW HT_.out HW_.out (by kernel_rfl)) (fun _ _ _ h => h) (Or.inl ⟨by rfl, ?_⟩) hHeld ?_ ?_
  rotate_left
  ·rintro w' ⟨s0, s1, s2, s3, s4, s5, s6, s7⟩
   go_simp
   with_reducible rfl
  rotate_left
  ·simp only [Act.put, List.setIfInBounds_toArray, List.set_cons_zero, List.set_cons_succ, i64_w, i32_w]
   rfl
  refine take_ (i := 1) (N := some 31) (v := ?_) (a' := ?_) #[true, true, false, true, false, false, false, false, false, false, false] rfl rfl (take_ofW HT_.out HW_.out (by kernel_rfl)) (fun _ _ _ h => h) (Or.inl ⟨by rfl, ?_⟩) hHeld ?_ ?_
  rotate_left
  ·rintro w' ⟨s0, s1, s2, s3, s4, s5, s6, s7⟩
   go_simp
   with_reducible rfl
  rotate_left
  ·simp only [Act.put, List.setIfInBounds_toArray, List.set_cons_zero, List.set_cons_succ, i64_w, i32_w]
   rfl
  refine join_ (σ := Nat) 2 #[true, true, true, true, true, true, true, true, true, false, false] (fun s_ => [(32, .agg #[.int .i64 t338, .bool t339, .int .i64 t340, .int .i64 t341, .int .i64 t342, .int .i64 t343]), (34, .tuple #[.agg #[.int .i64 t344, .bool t345, .int .i64 t346, .int .i64 t347, .int .i64 t348, .int .i64 t349], .int .i64 t350]), (11, .pointer (some ⟨s_, 0, none⟩)), (29, .tuple #[.agg #[.int .i64 t344, .bool t345, .int .i64 t346, .int .i64 t347, .int .i64 t348, .int .i64 t349], .int .i64 t350]), (35, .agg #[.int .i64 t344, .bool t345, .int .i64 t346, .int .i64 t347, .int .i64 t348, .int .i64 t349]), (36, .int .i64 t350)]) (fun s_ w' => (w'.cell? ⟨gb337, 0, none⟩ = some (.slice Ao41 t331.length co41) ∧ w'.cell? ⟨gb337, 1, none⟩ = some (.slice Ao46 t334.length co46) ∧ w'.cell? ⟨gb309, 0, none⟩ = some (.int .i64 a1_0) ∧ w'.cell? ⟨gb309, 1, none⟩ = some (.bool a1_1) ∧ w'.cell? ⟨gb309, 2, none⟩ = some (.int .i64 a1_2) ∧ w'.cell? ⟨gb309, 3, none⟩ = some (.int .i64 a1_3) ∧ w'.cell? ⟨gb309, 4, none⟩ = some (.int .i64 a1_4) ∧ w'.cell? ⟨gb309, 5, none⟩ = some (.int .i64 a1_5)) ∧ (Kd.R k33 33 w' w.heap.size (fun k_ => some k_ ≠ (.slice Ao41 t331.length co41 : Value).ownBlock ∧ k_ ≠ gb330 ∧ k_ ≠ s_) v312 t311) ∧ (Kd.R Kd.bool 4 w' w.heap.size (fun k_ => some k_ ≠ (.slice Ao46 t334.length co46 : Value).ownBlock) v315 t314) ∧ (Kd.R k33 33 w' w.heap.size (fun k_ => some k_ ≠ (v312 : Value).ownBlock ∧ k_ ≠ gb330 ∧ k_ ≠ s_) (.slice Ao41 t331.length co41) t331) ∧ (Kd.R Kd.bool 4 w' w.heap.size (fun k_ => some k_ ≠ (v315 : Value).ownBlock) (.slice Ao46 t334.length co46) t334) ∧ (w'.heap[gb308]? = some (.cells #[.slice A0_0 l0_0.length c0_0, .slice A0_1 l0_1.length c0_1] 25 (0, 0))) ∧ (w'.heap[gb309]? = some (.cells #[.int .i64 a1_0, .bool a1_1, .int .i64 a1_2, .int .i64 a1_3, .int .i64 a1_4, .int .i64 a1_5] 29 (0, 0))) ∧ (w'.heap[gb330]? = some (.cells #[.int .i64 t323, .bool t324, .int .i64 t325, .int .i64 t326, .int .i64 t327, .int .i64 t328] 33 (0, 0))) ∧ (w'.heap[gb337]? = some (.cells #[.slice Ao41 t331.length co41, .slice Ao46 t334.length co46] 37 (0, 0))) ∧ (w'.heap[s_]? = some (.cells #[.int .i64 0, .bool false, .int .i64 0, .int .i64 0, .int .i64 0, .int .i64 0] 33 (0, 0))) ∧ (w.heap.size ≤ s_) ∧ (w.heap.size ≤ s_) ∧ (gb308 ≠ s_) ∧ (s_ ≠ gb308) ∧ (gb309 ≠ s_) ∧ (s_ ≠ gb309) ∧ (gb330 ≠ s_) ∧ (s_ ≠ gb330) ∧ (gb337 ≠ s_) ∧ (s_ ≠ gb337) ∧ (Below w.heap.size w w')) ?_ ?_
  rotate_left
  ·intro hCont
   refine two_ (i := 2) (j := 8) (Ni := some 32) (Nj := some 11) #[true, true, true, true, false, false, false, false, false, false, false] #[true, true, false, true, false, false, false, false, true, false, false] rfl rfl rfl rfl (two_of HT_.out (by kernel_rfl)) (by decide) (by decide) (fun K hK => ?_) (fun K hK => ?_)
   ·skip
    refine goesR Try.func15 (by kernel_rfl) rfl #[.agg #[.int .i64 a1_0, .bool a1_1, .int .i64 a1_2, .int .i64 a1_3, .int .i64 a1_4, .int .i64 a1_5]] (by rfl) rfl rfl ?_
    with_reducible refine (laws_toWord.calls a1_0 a1_1 a1_2 a1_3 a1_4 a1_5 t338 t339 t340 t341 t342 t343 _ A15.out).mono ?_
    rintro e w49 ⟨rfl, hb⟩
    refine ⟨_, rfl, ?_⟩
    have n0_ := nR HO313 hb
    have n1_ := nR HO316 hb
    have n2_ := nR HO333 hb
    have n3_ := nR HO336 hb
    have n4_ := nblk BK308 hb
    have n5_ := nblk BK309 hb
    have n6_ := nblk BK330 hb
    have n7_ := nblk BK337 hb
    have n8_ := nbs HB hb
    clear HO313 HO316 HO333 HO336 BK308 BK309 BK330 BK337 HB
    have HO313 := n0_
    have HO316 := n1_
    have HO333 := n2_
    have HO336 := n3_
    have BK308 := n4_
    have BK309 := n5_
    have BK330 := n6_
    have BK337 := n7_
    have HB := n8_
    clear n0_ n1_ n2_ n3_ n4_ n5_ n6_ n7_ n8_
    (try clear hb)
    refine hK.out _ _ (c2 BK337 (c6e BK309)) (fun hHeld => ?_)
    clear hK K
    refine norm_ (a' := ?_) ?_ ?_
    rotate_left
    ·show Act.put _ (some 32) _ = _
     simp only [Act.put, List.setIfInBounds_toArray, List.set_cons_zero, List.set_cons_succ, i64_w, i32_w]
     rfl
    refine two_ (i := 4) (j := 8) (Ni := some 34) (Nj := some 11) #[true, true, true, true, true, false, false, false, false, false, false] #[true, true, true, true, false, false, false, false, true, false, false] rfl rfl rfl rfl (two_of HT_.out (by kernel_rfl)) (by decide) (by decide) (fun K hK => ?_) (fun K hK => ?_)
    ·skip
     refine goesR Try.func26 (by kernel_rfl) rfl #[.agg #[.slice Ao41 t331.length co41, .slice Ao46 t334.length co46], .agg #[.int .i64 t338, .bool t339, .int .i64 t340, .int .i64 t341, .int .i64 t342, .int .i64 t343], .int .i64 a2] (by rfl) rfl rfl ?_
     with_reducible refine (impl_Read.calls k _ _ t331 _ _ t334 t338 t339 t340 t341 t342 t343 a2 t344 t345 t346 t347 t348 t349 t350 _ ?side1 ?side2 ?side3 ?side4 A16.out).mono ?_
     (case side1 => repeat (first | exact (Kd.R_reads' HO333.out).2.2 | (with_reducible refine Kd.C_alloc ?_ _) | (with_reducible refine Kd.C_drewN ?_ _) | (with_reducible refine Kd.C_drew ?_)))
     (case side2 => exact (Kd.R_reads' HO333.out).2.1)
     (case side3 => repeat (first | exact (Kd.R_reads' HO336.out).2.2 | (with_reducible refine Kd.C_alloc ?_ _) | (with_reducible refine Kd.C_drewN ?_ _) | (with_reducible refine Kd.C_drew ?_)))
     (case side4 => exact (Kd.R_reads' HO336.out).2.1)
     rintro e w50 ⟨rfl, hb⟩
     refine ⟨_, rfl, ?_⟩
     have n0_ := nR HO313 hb
     have n1_ := nR HO316 hb
     have n2_ := nR HO333 hb
     have n3_ := nR HO336 hb
     have n4_ := nblk BK308 hb
     have n5_ := nblk BK309 hb
     have n6_ := nblk BK330 hb
     have n7_ := nblk BK337 hb
     have n8_ := nbs HB hb
     clear HO313 HO316 HO333 HO336 BK308 BK309 BK330 BK337 HB
     have HO313 := n0_
     have HO316 := n1_
     have HO333 := n2_
     have HO336 := n3_
     have BK308 := n4_
     have BK309 := n5_
     have BK330 := n6_
     have BK337 := n7_
     have HB := n8_
     clear n0_ n1_ n2_ n3_ n4_ n5_ n6_ n7_ n8_
     (try clear hb)
     refine hK.out _ _ (c2 BK337 (c6e BK309)) (fun hHeld => ?_)
     clear hK K
     refine norm_ (a' := ?_) ?_ ?_
     rotate_left
     ·show Act.put _ (some 34) _ = _
      simp only [Act.put, List.setIfInBounds_toArray, List.set_cons_zero, List.set_cons_succ, i64_w, i32_w]
      rfl
     refine pure_ (i := 5) (N := some 29) (v := ?_) (a' := ?_) #[true, true, true, true, true, true, false, false, false, false, false] rfl rfl (any_of HT_.out (by kernel_rfl)) (fun _ _ _ h => h) (Or.inl ⟨by rfl, ?_⟩) ?_ ?_
     rotate_left
     ·intro w'
      go_simp
      with_reducible rfl
     rotate_left
     ·simp only [Act.put, List.setIfInBounds_toArray, List.set_cons_zero, List.set_cons_succ, i64_w, i32_w]
      rfl
     refine pure_ (i := 6) (N := some 35) (v := ?_) (a' := ?_) #[true, true, true, true, true, true, true, false, false, false, false] rfl rfl (any_of HT_.out (by kernel_rfl)) (fun _ _ _ h => h) (Or.inl ⟨by rfl, ?_⟩) ?_ ?_
     rotate_left
     ·intro w'
      go_simp
      with_reducible rfl
     rotate_left
     ·simp only [Act.put, List.setIfInBounds_toArray, List.set_cons_zero, List.set_cons_succ, i64_w, i32_w]
      rfl
     refine pure_ (i := 7) (N := some 36) (v := ?_) (a' := ?_) #[true, true, true, true, true, true, true, true, false, false, false] rfl rfl (any_of HT_.out (by kernel_rfl)) (fun _ _ _ h => h) (Or.inl ⟨by rfl, ?_⟩) ?_ ?_
     rotate_left
     ·intro w'
      go_simp
      with_reducible rfl
     rotate_left
     ·simp only [Act.put, List.setIfInBounds_toArray, List.set_cons_zero, List.set_cons_succ, i64_w, i32_w]
      rfl
     refine one_ (i := 8) (N := some 11) #[true, true, true, true, true, true, true, true, true, false, false] rfl rfl (one_of HT_.out (by kernel_rfl)) (by decide) (fun K hK => ?_)
     refine box_step ?hg (N := 11) ?hd (cs := #[.int .i64 0, .bool false, .int .i64 0, .int .i64 0, .int .i64 0, .int .i64 0]) (t := 33) ?hr ?_; (case hd => rfl); (case hg => rfl); (case hr => first | (go_simp; done) | (go_simp; rfl))
     intro gb351 hg w51 hbox hb
     have n0_ := Aside0.mk (Kd.R_below (Kd.R_elderB (nRo HO313) gb351 (Nat.le_of_eq hg.symm)) hb)
     have n1_ := nR HO316 hb
     have n2_ := Aside0.mk (Kd.R_below (Kd.R_elderB (nRo HO333) gb351 (Nat.le_of_eq hg.symm)) hb)
     have n3_ := nR HO336 hb
     have n4_ := nblk BK308 hb
     have n5_ := nblk BK309 hb
     have n6_ := nblk BK330 hb
     have n7_ := nblk BK337 hb
     have n8_ := nbs HB hb
     have n9_ := Aside0.mk (hbox)
     have n10_ := nge HB hg
     have n11_ := nge HB hg
     have n12_ := nlt BK308 hg
     have n13_ := ngt BK308 hg
     have n14_ := nlt BK309 hg
     have n15_ := ngt BK309 hg
     have n16_ := nlt BK330 hg
     have n17_ := ngt BK330 hg
     have n18_ := nlt BK337 hg
     have n19_ := ngt BK337 hg
     clear HO313 HO316 HO333 HO336 BK308 BK309 BK330 BK337 HB
     have HO313 := n0_
     have HO316 := n1_
     have HO333 := n2_
     have HO336 := n3_
     have BK308 := n4_
     have BK309 := n5_
     have BK330 := n6_
     have BK337 := n7_
     have HB := n8_
     have BK351 := n9_
     have GW351 := n10_
     have GE351 := n11_
     have NB308_351 := n12_
     have NB351_308 := n13_
     have NB309_351 := n14_
     have NB351_309 := n15_
     have NB330_351 := n16_
     have NB351_330 := n17_
     have NB337_351 := n18_
     have NB351_337 := n19_
     clear n0_ n1_ n2_ n3_ n4_ n5_ n6_ n7_ n8_ n9_ n10_ n11_ n12_ n13_ n14_ n15_ n16_ n17_ n18_ n19_
     clear hb hbox hg
     refine hK.out _ _ (c2 BK337 (c6e BK309)) (fun hHeld => ?_)
     clear hK K
     refine norm_ (a' := ?_) ?_ ?_
     rotate_left
     ·show Act.put _ (some 11) _ = _
      simp only [Act.put, List.setIfInBounds_toArray, List.set_cons_zero, List.set_cons_succ, i64_w, i32_w]
      rfl
     exact norm_ (by simp only [putAll, Act.put, List.setIfInBounds_toArray, List.set_cons_zero, List.set_cons_succ]) (hCont (gb351) _ ⟨hHeld, (by (with_reducible repeat (first | apply Kd.R_alloc | apply Kd.R_drewN | apply Kd.R_drew)); exact Kd.R_mono HO313.out (fun _ hk => ⟨hk.1.1, ⟨hk.1.2, hk.2⟩⟩)), (nRo HO316), (by (with_reducible repeat (first | apply Kd.R_alloc | apply Kd.R_drewN | apply Kd.R_drew)); exact Kd.R_mono HO333.out (fun _ hk => ⟨hk.1.1, ⟨hk.1.2, hk.2⟩⟩)), (nRo HO336), (nb BK308), (nb BK309), (nb BK330), (nb BK337), (nb BK351), GW351.out, GE351.out, NB308_351.out, NB351_308.out, NB309_351.out, NB351_309.out, NB330_351.out, NB351_330.out, NB337_351.out, NB351_337.out, (by repeat (first | (with_reducible first | exact HB.out | apply below_alloc | apply pw_below_drewN | apply below_drew1 | refine below_set ?_ GE308.out | refine below_set ?_ GE309.out | refine below_set ?_ GE330.out | refine below_set ?_ GE337.out | refine below_set ?_ GE351.out) | exact HB.out))⟩)
    ·skip
     refine box_step ?hg (N := 11) ?hd (cs := #[.int .i64 0, .bool false, .int .i64 0, .int .i64 0, .int .i64 0, .int .i64 0]) (t := 33) ?hr ?_; (case hd => rfl); (case hg => rfl); (case hr => first | (go_simp; done) | (go_simp; rfl))
     intro gb351 hg w50 hbox hb
     have n0_ := Aside0.mk (Kd.R_below (Kd.R_elderB (nRo HO313) gb351 (Nat.le_of_eq hg.symm)) hb)
     have n1_ := nR HO316 hb
     have n2_ := Aside0.mk (Kd.R_below (Kd.R_elderB (nRo HO333) gb351 (Nat.le_of_eq hg.symm)) hb)
     have n3_ := nR HO336 hb
     have n4_ := nblk BK308 hb
     have n5_ := nblk BK309 hb
     have n6_ := nblk BK330 hb
     have n7_ := nblk BK337 hb
     have n8_ := nbs HB hb
     have n9_ := Aside0.mk (hbox)
     have n10_ := nge HB hg
     have n11_ := nge HB hg
     have n12_ := nlt BK308 hg
     have n13_ := ngt BK308 hg
     have n14_ := nlt BK309 hg
     have n15_ := ngt BK309 hg
     have n16_ := nlt BK330 hg
     have n17_ := ngt BK330 hg
     have n18_ := nlt BK337 hg
     have n19_ := ngt BK337 hg
     clear HO313 HO316 HO333 HO336 BK308 BK309 BK330 BK337 HB
     have HO313 := n0_
     have HO316 := n1_
     have HO333 := n2_
     have HO336 := n3_
     have BK308 := n4_
     have BK309 := n5_
     have BK330 := n6_
     have BK337 := n7_
     have HB := n8_
     have BK351 := n9_
     have GW351 := n10_
     have GE351 := n11_
     have NB308_351 := n12_
     have NB351_308 := n13_
     have NB309_351 := n14_
     have NB351_309 := n15_
     have NB330_351 := n16_
     have NB351_330 := n17_
     have NB337_351 := n18_
     have NB351_337 := n19_
     clear n0_ n1_ n2_ n3_ n4_ n5_ n6_ n7_ n8_ n9_ n10_ n11_ n12_ n13_ n14_ n15_ n16_ n17_ n18_ n19_
     clear hb hbox hg
     refine hK.out _ _ (c2 BK337 (c6e BK309)) (fun hHeld => ?_)
     clear hK K
     refine norm_ (a' := ?_) ?_ ?_
     rotate_left
     ·show Act.put _ (some 11) _ = _
      simp only [Act.put, List.setIfInBounds_toArray, List.set_cons_zero, List.set_cons_succ, i64_w, i32_w]
      rfl
     refine one_ (i := 4) (N := some 34) #[true, true, true, true, true, false, false, false, true, false, false] rfl rfl (one_of HT_.out (by kernel_rfl)) (by decide) (fun K hK => ?_)
     refine goesR Try.func26 (by kernel_rfl) rfl #[.agg #[.slice Ao41 t331.length co41, .slice Ao46 t334.length co46], .agg #[.int .i64 t338, .bool t339, .int .i64 t340, .int .i64 t341, .int .i64 t342, .int .i64 t343], .int .i64 a2] (by rfl) rfl rfl ?_
     with_reducible refine (impl_Read.calls k _ _ t331 _ _ t334 t338 t339 t340 t341 t342 t343 a2 t344 t345 t346 t347 t348 t349 t350 _ ?side1 ?side2 ?side3 ?side4 A16.out).mono ?_
     (case side1 => repeat (first | exact (Kd.R_reads' HO333.out).2.2 | (with_reducible refine Kd.C_alloc ?_ _) | (with_reducible refine Kd.C_drewN ?_ _) | (with_reducible refine Kd.C_drew ?_)))
     (case side2 => exact (Kd.R_reads' HO333.out).2.1)
     (case side3 => repeat (first | exact (Kd.R_reads' HO336.out).2.2 | (with_reducible refine Kd.C_alloc ?_ _) | (with_reducible refine Kd.C_drewN ?_ _) | (with_reducible refine Kd.C_drew ?_)))
     (case side4 => exact (Kd.R_reads' HO336.out).2.1)
     rintro e w51 ⟨rfl, hb⟩
     refine ⟨_, rfl, ?_⟩
     have n0_ := nR HO313 hb
     have n1_ := nR HO316 hb
     have n2_ := nR HO333 hb
     have n3_ := nR HO336 hb
     have n4_ := nblk BK308 hb
     have n5_ := nblk BK309 hb
     have n6_ := nblk BK330 hb
     have n7_ := nblk BK337 hb
     have n8_ := nblk BK351 hb
     have n9_ := nbs HB hb
     clear HO313 HO316 HO333 HO336 BK308 BK309 BK330 BK337 BK351 HB
     have HO313 := n0_
     have HO316 := n1_
     have HO333 := n2_
     have HO336 := n3_
     have BK308 := n4_
     have BK309 := n5_
     have BK330 := n6_
     have BK337 := n7_
     have BK351 := n8_
     have HB := n9_
     clear n0_ n1_ n2_ n3_ n4_ n5_ n6_ n7_ n8_ n9_
     (try clear hb)
     refine hK.out _ _ (c2 BK337 (c6e BK309)) (fun hHeld => ?_)
     clear hK K
     refine norm_ (a' := ?_) ?_ ?_
     rotate_left
     ·show Act.put _ (some 34) _ = _
      simp only [Act.put, List.setIfInBounds_toArray, List.set_cons_zero, List.set_cons_succ, i64_w, i32_w]
      rfl
     refine pure_ (i := 5) (N := some 29) (v := ?_) (a' := ?_) #[true, true, true, true, true, true, false, false, true, false, false] rfl rfl (any_of HT_.out (by kernel_rfl)) (fun _ _ _ h => h) (Or.inl ⟨by rfl, ?_⟩) ?_ ?_
     rotate_left
     ·intro w'
      go_simp
      with_reducible rfl
     rotate_left
     ·simp only [Act.put, List.setIfInBounds_toArray, List.set_cons_zero, List.set_cons_succ, i64_w, i32_w]
      rfl
     refine pure_ (i := 6) (N := some 35) (v := ?_) (a' := ?_) #[true, true, true, true, true, true, true, false, true, false, false] rfl rfl (any_of HT_.out (by kernel_rfl)) (fun _ _ _ h => h) (Or.inl ⟨by rfl, ?_⟩) ?_ ?_
     rotate_left
     ·intro w'
      go_simp
      with_reducible rfl
     rotate_left
     ·simp only [Act.put, List.setIfInBounds_toArray, List.set_cons_zero, List.set_cons_succ, i64_w, i32_w]
      rfl
     refine pure_ (i := 7) (N := some 36) (v := ?_) (a' := ?_) #[true, true, true, true, true, true, true, true, true, false, false] rfl rfl (any_of HT_.out (by kernel_rfl)) (fun _ _ _ h => h) (Or.inl ⟨by rfl, ?_⟩) ?_ ?_
     rotate_left
     ·intro w'
      go_simp
      with_reducible rfl
     rotate_left
     ·simp only [Act.put, List.setIfInBounds_toArray, List.set_cons_zero, List.set_cons_succ, i64_w, i32_w]
      rfl
     exact norm_ (by simp only [putAll, Act.put, List.setIfInBounds_toArray, List.set_cons_zero, List.set_cons_succ]) (hCont (gb351) _ ⟨hHeld, (by (with_reducible repeat (first | apply Kd.R_alloc | apply Kd.R_drewN | apply Kd.R_drew)); exact Kd.R_mono HO313.out (fun _ hk => ⟨hk.1.1, ⟨hk.1.2, hk.2⟩⟩)), (nRo HO316), (by (with_reducible repeat (first | apply Kd.R_alloc | apply Kd.R_drewN | apply Kd.R_drew)); exact Kd.R_mono HO333.out (fun _ hk => ⟨hk.1.1, ⟨hk.1.2, hk.2⟩⟩)), (nRo HO336), (nb BK308), (nb BK309), (nb BK330), (nb BK337), (nb BK351), GW351.out, GE351.out, NB308_351.out, NB351_308.out, NB309_351.out, NB351_309.out, NB330_351.out, NB351_330.out, NB337_351.out, NB351_337.out, (by repeat (first | (with_reducible first | exact HB.out | apply below_alloc | apply pw_below_drewN | apply below_drew1 | refine below_set ?_ GE308.out | refine below_set ?_ GE309.out | refine below_set ?_ GE330.out | refine below_set ?_ GE337.out | refine below_set ?_ GE351.out) | exact HB.out))⟩)
   ·skip
    refine box_step ?hg (N := 11) ?hd (cs := #[.int .i64 0, .bool false, .int .i64 0, .int .i64 0, .int .i64 0, .int .i64 0]) (t := 33) ?hr ?_; (case hd => rfl); (case hg => rfl); (case hr => first | (go_simp; done) | (go_simp; rfl))
    intro gb351 hg w49 hbox hb
    have n0_ := Aside0.mk (Kd.R_below (Kd.R_elderB (nRo HO313) gb351 (Nat.le_of_eq hg.symm)) hb)
    have n1_ := nR HO316 hb
    have n2_ := Aside0.mk (Kd.R_below (Kd.R_elderB (nRo HO333) gb351 (Nat.le_of_eq hg.symm)) hb)
    have n3_ := nR HO336 hb
    have n4_ := nblk BK308 hb
    have n5_ := nblk BK309 hb
    have n6_ := nblk BK330 hb
    have n7_ := nblk BK337 hb
    have n8_ := nbs HB hb
    have n9_ := Aside0.mk (hbox)
    have n10_ := nge HB hg
    have n11_ := nge HB hg
    have n12_ := nlt BK308 hg
    have n13_ := ngt BK308 hg
    have n14_ := nlt BK309 hg
    have n15_ := ngt BK309 hg
    have n16_ := nlt BK330 hg
    have n17_ := ngt BK330 hg
    have n18_ := nlt BK337 hg
    have n19_ := ngt BK337 hg
    clear HO313 HO316 HO333 HO336 BK308 BK309 BK330 BK337 HB
    have HO313 := n0_
    have HO316 := n1_
    have HO333 := n2_
    have HO336 := n3_
    have BK308 := n4_
    have BK309 := n5_
    have BK330 := n6_
    have BK337 := n7_
    have HB := n8_
    have BK351 := n9_
    have GW351 := n10_
    have GE351 := n11_
    have NB308_351 := n12_
    have NB351_308 := n13_
    have NB309_351 := n14_
    have NB351_309 := n15_
    have NB330_351 := n16_
    have NB351_330 := n17_
    have NB337_351 := n18_
    have NB351_337 := n19_
    clear n0_ n1_ n2_ n3_ n4_ n5_ n6_ n7_ n8_ n9_ n10_ n11_ n12_ n13_ n14_ n15_ n16_ n17_ n18_ n19_
    clear hb hbox hg
    refine hK.out _ _ (c2 BK337 (c6e BK309)) (fun hHeld => ?_)
    clear hK K
    refine norm_ (a' := ?_) ?_ ?_
    rotate_left
    ·show Act.put _ (some 11) _ = _
     simp only [Act.put, List.setIfInBounds_toArray, List.set_cons_zero, List.set_cons_succ, i64_w, i32_w]
     rfl
    refine one_ (i := 2) (N := some 32) #[true, true, true, true, false, false, false, false, true, false, false] rfl rfl (one_of HT_.out (by kernel_rfl)) (by decide) (fun K hK => ?_)
    refine goesR Try.func15 (by kernel_rfl) rfl #[.agg #[.int .i64 a1_0, .bool a1_1, .int .i64 a1_2, .int .i64 a1_3, .int .i64 a1_4, .int .i64 a1_5]] (by rfl) rfl rfl ?_
    with_reducible refine (laws_toWord.calls a1_0 a1_1 a1_2 a1_3 a1_4 a1_5 t338 t339 t340 t341 t342 t343 _ A15.out).mono ?_
    rintro e w50 ⟨rfl, hb⟩
    refine ⟨_, rfl, ?_⟩
    have n0_ := nR HO313 hb
    have n1_ := nR HO316 hb
    have n2_ := nR HO333 hb
    have n3_ := nR HO336 hb
    have n4_ := nblk BK308 hb
    have n5_ := nblk BK309 hb
    have n6_ := nblk BK330 hb
    have n7_ := nblk BK337 hb
    have n8_ := nblk BK351 hb
    have n9_ := nbs HB hb
    clear HO313 HO316 HO333 HO336 BK308 BK309 BK330 BK337 BK351 HB
    have HO313 := n0_
    have HO316 := n1_
    have HO333 := n2_
    have HO336 := n3_
    have BK308 := n4_
    have BK309 := n5_
    have BK330 := n6_
    have BK337 := n7_
    have BK351 := n8_
    have HB := n9_
    clear n0_ n1_ n2_ n3_ n4_ n5_ n6_ n7_ n8_ n9_
    (try clear hb)
    refine hK.out _ _ (c2 BK337 (c6e BK309)) (fun hHeld => ?_)
    clear hK K
    refine norm_ (a' := ?_) ?_ ?_
    rotate_left
    ·show Act.put _ (some 32) _ = _
     simp only [Act.put, List.setIfInBounds_toArray, List.set_cons_zero, List.set_cons_succ, i64_w, i32_w]
     rfl
    refine one_ (i := 4) (N := some 34) #[true, true, true, true, true, false, false, false, true, false, false] rfl rfl (one_of HT_.out (by kernel_rfl)) (by decide) (fun K hK => ?_)
    refine goesR Try.func26 (by kernel_rfl) rfl #[.agg #[.slice Ao41 t331.length co41, .slice Ao46 t334.length co46], .agg #[.int .i64 t338, .bool t339, .int .i64 t340, .int .i64 t341, .int .i64 t342, .int .i64 t343], .int .i64 a2] (by rfl) rfl rfl ?_
    with_reducible refine (impl_Read.calls k _ _ t331 _ _ t334 t338 t339 t340 t341 t342 t343 a2 t344 t345 t346 t347 t348 t349 t350 _ ?side1 ?side2 ?side3 ?side4 A16.out).mono ?_
    (case side1 => repeat (first | exact (Kd.R_reads' HO333.out).2.2 | (with_reducible refine Kd.C_alloc ?_ _) | (with_reducible refine Kd.C_drewN ?_ _) | (with_reducible refine Kd.C_drew ?_)))
    (case side2 => exact (Kd.R_reads' HO333.out).2.1)
    (case side3 => repeat (first | exact (Kd.R_reads' HO336.out).2.2 | (with_reducible refine Kd.C_alloc ?_ _) | (with_reducible refine Kd.C_drewN ?_ _) | (with_reducible refine Kd.C_drew ?_)))
    (case side4 => exact (Kd.R_reads' HO336.out).2.1)
    rintro e w51 ⟨rfl, hb⟩
    refine ⟨_, rfl, ?_⟩
    have n0_ := nR HO313 hb
    have n1_ := nR HO316 hb
    have n2_ := nR HO333 hb
    have n3_ := nR HO336 hb
    have n4_ := nblk BK308 hb
    have n5_ := nblk BK309 hb
    have n6_ := nblk BK330 hb
    have n7_ := nblk BK337 hb
    have n8_ := nblk BK351 hb
    have n9_ := nbs HB hb
    clear HO313 HO316 HO333 HO336 BK308 BK309 BK330 BK337 BK351 HB
    have HO313 := n0_
    have HO316 := n1_
    have HO333 := n2_
    have HO336 := n3_
    have BK308 := n4_
    have BK309 := n5_
    have BK330 := n6_
    have BK337 := n7_
    have BK351 := n8_
    have HB := n9_
    clear n0_ n1_ n2_ n3_ n4_ n5_ n6_ n7_ n8_ n9_
    (try clear hb)
    refine hK.out _ _ (c2 BK337 (c6e BK309)) (fun hHeld => ?_)
    clear hK K
    refine norm_ (a' := ?_) ?_ ?_
    rotate_left
    ·show Act.put _ (some 34) _ = _
     simp only [Act.put, List.setIfInBounds_toArray, List.set_cons_zero, List.set_cons_succ, i64_w, i32_w]
     rfl
    refine pure_ (i := 5) (N := some 29) (v := ?_) (a' := ?_) #[true, true, true, true, true, true, false, false, true, false, false] rfl rfl (any_of HT_.out (by kernel_rfl)) (fun _ _ _ h => h) (Or.inl ⟨by rfl, ?_⟩) ?_ ?_
    rotate_left
    ·intro w'
     go_simp
     with_reducible rfl
    rotate_left
    ·simp only [Act.put, List.setIfInBounds_toArray, List.set_cons_zero, List.set_cons_succ, i64_w, i32_w]
     rfl
    refine pure_ (i := 6) (N := some 35) (v := ?_) (a' := ?_) #[true, true, true, true, true, true, true, false, true, false, false] rfl rfl (any_of HT_.out (by kernel_rfl)) (fun _ _ _ h => h) (Or.inl ⟨by rfl, ?_⟩) ?_ ?_
    rotate_left
    ·intro w'
     go_simp
     with_reducible rfl
    rotate_left
    ·simp only [Act.put, List.setIfInBounds_toArray, List.set_cons_zero, List.set_cons_succ, i64_w, i32_w]
     rfl
    refine pure_ (i := 7) (N := some 36) (v := ?_) (a' := ?_) #[true, true, true, true, true, true, true, true, true, false, false] rfl rfl (any_of HT_.out (by kernel_rfl)) (fun _ _ _ h => h) (Or.inl ⟨by rfl, ?_⟩) ?_ ?_
    rotate_left
    ·intro w'
     go_simp
     with_reducible rfl
    rotate_left
    ·simp only [Act.put, List.setIfInBounds_toArray, List.set_cons_zero, List.set_cons_succ, i64_w, i32_w]
     rfl
    exact norm_ (by simp only [putAll, Act.put, List.setIfInBounds_toArray, List.set_cons_zero, List.set_cons_succ]) (hCont (gb351) _ ⟨hHeld, (by (with_reducible repeat (first | apply Kd.R_alloc | apply Kd.R_drewN | apply Kd.R_drew)); exact Kd.R_mono HO313.out (fun _ hk => ⟨hk.1.1, ⟨hk.1.2, hk.2⟩⟩)), (nRo HO316), (by (with_reducible repeat (first | apply Kd.R_alloc | apply Kd.R_drewN | apply Kd.R_drew)); exact Kd.R_mono HO333.out (fun _ hk => ⟨hk.1.1, ⟨hk.1.2, hk.2⟩⟩)), (nRo HO336), (nb BK308), (nb BK309), (nb BK330), (nb BK337), (nb BK351), GW351.out, GE351.out, NB308_351.out, NB351_308.out, NB309_351.out, NB351_309.out, NB330_351.out, NB351_330.out, NB337_351.out, NB351_337.out, (by repeat (first | (with_reducible first | exact HB.out | apply below_alloc | apply pw_below_drewN | apply below_drew1 | refine below_set ?_ GE308.out | refine below_set ?_ GE309.out | refine below_set ?_ GE330.out | refine below_set ?_ GE337.out | refine below_set ?_ GE351.out) | exact HB.out))⟩)
  rintro gb351 w52 ⟨hS_, h0_, h1_, h2_, h3_, h4_, h5_, h6_, h7_, h8_, h9_, h10_, h11_, h12_, h13_, h14_, h15_, h16_, h17_, h18_, h19_⟩
  have n0_ : Aside0 (Kd.R k33 33 w52 w.heap.size (fun k_ => some k_ ≠ (.slice Ao41 t331.length co41 : Value).ownBlock ∧ k_ ≠ gb330 ∧ k_ ≠ gb351) v312 t311) := ⟨h0_⟩
  have n1_ : Aside0 (Kd.R Kd.bool 4 w52 w.heap.size (fun k_ => some k_ ≠ (.slice Ao46 t334.length co46 : Value).ownBlock) v315 t314) := ⟨h1_⟩
  have n2_ : Aside0 (Kd.R k33 33 w52 w.heap.size (fun k_ => some k_ ≠ (v312 : Value).ownBlock ∧ k_ ≠ gb330 ∧ k_ ≠ gb351) (.slice Ao41 t331.length co41) t331) := ⟨h2_⟩
  have n3_ : Aside0 (Kd.R Kd.bool 4 w52 w.heap.size (fun k_ => some k_ ≠ (v315 : Value).ownBlock) (.slice Ao46 t334.length co46) t334) := ⟨h3_⟩
  have n4_ : Aside0 (w52.heap[gb308]? = some (.cells #[.slice A0_0 l0_0.length c0_0, .slice A0_1 l0_1.length c0_1] 25 (0, 0))) := ⟨h4_⟩
  have n5_ : Aside0 (w52.heap[gb309]? = some (.cells #[.int .i64 a1_0, .bool a1_1, .int .i64 a1_2, .int .i64 a1_3, .int .i64 a1_4, .int .i64 a1_5] 29 (0, 0))) := ⟨h5_⟩
  have n6_ : Aside0 (w52.heap[gb330]? = some (.cells #[.int .i64 t323, .bool t324, .int .i64 t325, .int .i64 t326, .int .i64 t327, .int .i64 t328] 33 (0, 0))) := ⟨h6_⟩
  have n7_ : Aside0 (w52.heap[gb337]? = some (.cells #[.slice Ao41 t331.length co41, .slice Ao46 t334.length co46] 37 (0, 0))) := ⟨h7_⟩
  have n8_ : Aside0 (w52.heap[gb351]? = some (.cells #[.int .i64 0, .bool false, .int .i64 0, .int .i64 0, .int .i64 0, .int .i64 0] 33 (0, 0))) := ⟨h8_⟩
  have n9_ : Aside0 (w.heap.size ≤ gb351) := ⟨h9_⟩
  have n10_ : Aside0 (w.heap.size ≤ gb351) := ⟨h10_⟩
  have n11_ : Aside0 (gb308 ≠ gb351) := ⟨h11_⟩
  have n12_ : Aside0 (gb351 ≠ gb308) := ⟨h12_⟩
  have n13_ : Aside0 (gb309 ≠ gb351) := ⟨h13_⟩
  have n14_ : Aside0 (gb351 ≠ gb309) := ⟨h14_⟩
  have n15_ : Aside0 (gb330 ≠ gb351) := ⟨h15_⟩
  have n16_ : Aside0 (gb351 ≠ gb330) := ⟨h16_⟩
  have n17_ : Aside0 (gb337 ≠ gb351) := ⟨h17_⟩
  have n18_ : Aside0 (gb351 ≠ gb337) := ⟨h18_⟩
  have n19_ : Aside0 (Below w.heap.size w w52) := ⟨h19_⟩
  clear HO313 HO316 HO333 HO336 BK308 BK309 BK330 BK337 HB
  clear h0_ h1_ h2_ h3_ h4_ h5_ h6_ h7_ h8_ h9_ h10_ h11_ h12_ h13_ h14_ h15_ h16_ h17_ h18_ h19_
  have HO313 := n0_
  have HO316 := n1_
  have HO333 := n2_
  have HO336 := n3_
  have BK308 := n4_
  have BK309 := n5_
  have BK330 := n6_
  have BK337 := n7_
  have BK351 := n8_
  have GW351 := n9_
  have GE351 := n10_
  have NB308_351 := n11_
  have NB351_308 := n12_
  have NB309_351 := n13_
  have NB351_309 := n14_
  have NB330_351 := n15_
  have NB351_330 := n16_
  have NB337_351 := n17_
  have NB351_337 := n18_
  have HB := n19_
  clear n0_ n1_ n2_ n3_ n4_ n5_ n6_ n7_ n8_ n9_ n10_ n11_ n12_ n13_ n14_ n15_ n16_ n17_ n18_ n19_
  have hHeld : w52.cell? ⟨gb337, 0, none⟩ = some (.slice Ao41 t331.length co41) ∧ w52.cell? ⟨gb337, 1, none⟩ = some (.slice Ao46 t334.length co46) ∧ w52.cell? ⟨gb309, 0, none⟩ = some (.int .i64 a1_0) ∧ w52.cell? ⟨gb309, 1, none⟩ = some (.bool a1_1) ∧ w52.cell? ⟨gb309, 2, none⟩ = some (.int .i64 a1_2) ∧ w52.cell? ⟨gb309, 3, none⟩ = some (.int .i64 a1_3) ∧ w52.cell? ⟨gb309, 4, none⟩ = some (.int .i64 a1_4) ∧ w52.cell? ⟨gb309, 5, none⟩ = some (.int .i64 a1_5) := hS_
  refine norm_ (a' := ?_) ?_ ?_
  rotate_left
  ·simp only [putAll, Act.put, List.setIfInBounds_toArray, List.set_cons_zero, List.set_cons_succ]
   rfl
  refine one_ (i := 9) (N := none) #[true, true, true, true, true, true, true, true, true, true, false] rfl rfl (one_of HT_.out (by kernel_rfl)) (by decide) (fun K hK => ?_)
  have hs53 : w52.cell? ⟨gb351, 0, none⟩ = some (.int .i64 0) := (blk_cell BK351.out 0).trans rfl
  have hfs53 := blk_frozen BK351.out 0
  have hns53_0 := NB308_351.out
  have hns53_1 := NB309_351.out
  have hns53_2 := NB330_351.out
  have hns53_3 := NB337_351.out
  have hms53_0 := NB351_308.out
  have hms53_1 := NB351_309.out
  have hms53_2 := NB351_330.out
  have hms53_3 := NB351_337.out
  have hs54 : w52.cell? ⟨gb351, 1, none⟩ = some (.bool false) := (blk_cell BK351.out 1).trans rfl
  have hfs54 := blk_frozen BK351.out 1
  have hns54_0 := NB308_351.out
  have hns54_1 := NB309_351.out
  have hns54_2 := NB330_351.out
  have hns54_3 := NB337_351.out
  have hms54_0 := NB351_308.out
  have hms54_1 := NB351_309.out
  have hms54_2 := NB351_330.out
  have hms54_3 := NB351_337.out
  have hs55 : w52.cell? ⟨gb351, 2, none⟩ = some (.int .i64 0) := (blk_cell BK351.out 2).trans rfl
  have hfs55 := blk_frozen BK351.out 2
  have hns55_0 := NB308_351.out
  have hns55_1 := NB309_351.out
  have hns55_2 := NB330_351.out
  have hns55_3 := NB337_351.out
  have hms55_0 := NB351_308.out
  have hms55_1 := NB351_309.out
  have hms55_2 := NB351_330.out
  have hms55_3 := NB351_337.out
  have hs56 : w52.cell? ⟨gb351, 3, none⟩ = some (.int .i64 0) := (blk_cell BK351.out 3).trans rfl
  have hfs56 := blk_frozen BK351.out 3
  have hns56_0 := NB308_351.out
  have hns56_1 := NB309_351.out
  have hns56_2 := NB330_351.out
  have hns56_3 := NB337_351.out
  have hms56_0 := NB351_308.out
  have hms56_1 := NB351_309.out
  have hms56_2 := NB351_330.out
  have hms56_3 := NB351_337.out
  have hs57 : w52.cell? ⟨gb351, 4, none⟩ = some (.int .i64 0) := (blk_cell BK351.out 4).trans rfl
  have hfs57 := blk_frozen BK351.out 4
  have hns57_0 := NB308_351.out
  have hns57_1 := NB309_351.out
  have hns57_2 := NB330_351.out
  have hns57_3 := NB337_351.out
  have hms57_0 := NB351_308.out
  have hms57_1 := NB351_309.out
  have hms57_2 := NB351_330.out
  have hms57_3 := NB351_337.out
  have hs58 : w52.cell? ⟨gb351, 5, none⟩ = some (.int .i64 0) := (blk_cell BK351.out 5).trans rfl
  have hfs58 := blk_frozen BK351.out 5
  have hns58_0 := NB308_351.out
  have hns58_1 := NB309_351.out
  have hns58_2 := NB330_351.out
  have hns58_3 := NB337_351.out
  have hms58_0 := NB351_308.out
  have hms58_1 := NB351_309.out
  have hms58_2 := NB351_330.out
  have hms58_3 := NB351_337.out
  refine skip_ (w1 := ?_) (by rfl) rfl ?_ ?_
  rotate_left
  ·go_simp
   rfl
  refine hK.out _ _ ⟨(g6 NB337_351.out hHeld.1), (g6 NB337_351.out hHeld.2.1), (g6 NB309_351.out hHeld.2.2.1), (g6 NB309_351.out hHeld.2.2.2.1), (g6 NB309_351.out hHeld.2.2.2.2.1), (g6 NB309_351.out hHeld.2.2.2.2.2.1), (g6 NB309_351.out hHeld.2.2.2.2.2.2.1), (g6 NB309_351.out hHeld.2.2.2.2.2.2.2)⟩ (fun hHeld => ?_)
  clear hK K
  refine pure_ (i := 10) (N := some 12) (v := ?_) (a' := ?_) #[true, true, true, true, true, true, true, true, true, true, true] rfl rfl (any_of HT_.out (by kernel_rfl)) (fun _ _ _ h => h) (Or.inl ⟨by rfl, ?_⟩) ?_ ?_
  rotate_left
  ·intro w'
   go_simp
   with_reducible rfl
  rotate_left
  ·simp only [Act.put, List.setIfInBounds_toArray, List.set_cons_zero, List.set_cons_succ, i64_w, i32_w]
   rfl
  refine done_ (done_of HT_.out (by kernel_rfl)) ?_
  go_upto_region 8 with (fail)
  go_cut [45] (fun v45 wc => ∃ (kq : Nat) (x45_16 : Bool), v45 = .bool x45_16 ∧ Aside0 (laws_FnExactRead.j0 kq x45_16 l0_0 l0_1 t331 t334 = some r) ∧ Aside0 (kq ≤ k) ∧ Aside0 (Kd.R k33 33 wc w.heap.size (fun k_ => k_ ≠ gb330 ∧ k_ ≠ gb351) (.slice Ao41 t331.length co41) t331) ∧ Aside0 (Kd.R Kd.bool 4 wc w.heap.size (fun _ => True) (.slice Ao46 t334.length co46) t334) ∧ Aside0 (wc.heap[gb308]? = some (.cells #[(.slice A0_0 l0_0.length c0_0), (.slice A0_1 l0_1.length c0_1)] 25 (0, 0))) ∧ Aside0 (wc.heap[gb309]? = some (.cells #[.int .i64 a1_0, .bool a1_1, .int .i64 a1_2, .int .i64 a1_3, .int .i64 a1_4, .int .i64 a1_5] 29 (0, 0))) ∧ Aside0 (wc.heap[gb330]? = some (.cells #[.int .i64 t323, .bool t324, .int .i64 t325, .int .i64 t326, .int .i64 t327, .int .i64 t328] 33 (0, 0))) ∧ Aside0 (wc.heap[gb337]? = some (.cells #[(.slice Ao41 t331.length co41), (.slice Ao46 t334.length co46)] 37 (0, 0))) ∧ Aside0 (wc.heap[gb351]? = some (.cells #[.int .i64 t344, .bool t345, .int .i64 t346, .int .i64 t347, .int .i64 t348, .int .i64 t349] 33 (0, 0))) ∧ Aside0 (Below w.heap.size w wc))
  case first =>
   have H := HC17.out
   clear HC17
   replace H := Option.bind_eq_some_iff.mp H
   obtain ⟨t352, A590, H⟩ := H
   replace H : (if t352 = true then (laws_FnExactRead.j0 k (t350 != t329) l0_0 l0_1 t331 t334) else (laws_FnExactRead.j0 k true l0_0 l0_1 t331 t334)) = some r := H
   have A59 := Aside0.mk A590
   clear A590
   by_cases c60 : t352 = true
   ·subst c60
    have H1 : (laws_FnExactRead.j0 k (t350 != t329) l0_0 l0_1 t331 t334) = some r := by rw [if_pos rfl] at H; exact H
    clear H
    have H := H1
    clear H1
    have H' := Aside0.mk H
    clear H
    have hnb61 := NB351_308.out
    have hnc61 := NB308_351.out
    have hnb62 := NB351_309.out
    have hnc62 := NB309_351.out
    have hnb63 := NB351_330.out
    have hnc63 := NB330_351.out
    have hnb64 := NB351_337.out
    have hnc64 := NB337_351.out
    have hcz65_0 : w52.cell? ⟨gb351, 0, none⟩ = some (.int .i64 0) := (blk_cell BK351.out 0).trans rfl
    have hcz65_1 : w52.cell? ⟨gb351, 1, none⟩ = some (.bool false) := (blk_cell BK351.out 1).trans rfl
    have hcz65_2 : w52.cell? ⟨gb351, 2, none⟩ = some (.int .i64 0) := (blk_cell BK351.out 2).trans rfl
    have hcz65_3 : w52.cell? ⟨gb351, 3, none⟩ = some (.int .i64 0) := (blk_cell BK351.out 3).trans rfl
    have hcz65_4 : w52.cell? ⟨gb351, 4, none⟩ = some (.int .i64 0) := (blk_cell BK351.out 4).trans rfl
    have hcz65_5 : w52.cell? ⟨gb351, 5, none⟩ = some (.int .i64 0) := (blk_cell BK351.out 5).trans rfl
    have hfz65_0 := blk_frozen BK351.out 0
    have hfz65_1 := blk_frozen BK351.out 1
    have hfz65_2 := blk_frozen BK351.out 2
    have hfz65_3 := blk_frozen BK351.out 3
    have hfz65_4 := blk_frozen BK351.out 4
    have hfz65_5 := blk_frozen BK351.out 5
    have hnb66 := NB330_308.out
    have hnc66 := NB308_330.out
    have hnb67 := NB330_309.out
    have hnc67 := NB309_330.out
    have hnb68 := NB330_337.out
    have hnc68 := NB337_330.out
    have hcz69_0 : w52.cell? ⟨gb330, 0, none⟩ = some (.int .i64 t323) := (blk_cell BK330.out 0).trans rfl
    have hcz69_1 : w52.cell? ⟨gb330, 1, none⟩ = some (.bool t324) := (blk_cell BK330.out 1).trans rfl
    have hcz69_2 : w52.cell? ⟨gb330, 2, none⟩ = some (.int .i64 t325) := (blk_cell BK330.out 2).trans rfl
    have hcz69_3 : w52.cell? ⟨gb330, 3, none⟩ = some (.int .i64 t326) := (blk_cell BK330.out 3).trans rfl
    have hcz69_4 : w52.cell? ⟨gb330, 4, none⟩ = some (.int .i64 t327) := (blk_cell BK330.out 4).trans rfl
    have hcz69_5 : w52.cell? ⟨gb330, 5, none⟩ = some (.int .i64 t328) := (blk_cell BK330.out 5).trans rfl
    have hfz69_0 := blk_frozen BK330.out 0
    have hfz69_1 := blk_frozen BK330.out 1
    have hfz69_2 := blk_frozen BK330.out 2
    have hfz69_3 := blk_frozen BK330.out 3
    have hfz69_4 := blk_frozen BK330.out 4
    have hfz69_5 := blk_frozen BK330.out 5
    go_wp2_with (first | ((with_reducible refine gate_callee (f := 17) rfl ?_); refine goesM (some 39) rfl rfl Try.func17 (by kernel_rfl) rfl #[.agg #[.int .i64 t344, .bool t345, .int .i64 t346, .int .i64 t347, .int .i64 t348, .int .i64 t349], .agg #[.int .i64 t323, .bool t324, .int .i64 t325, .int .i64 t326, .int .i64 t327, .int .i64 t328]] rfl ?_; (with_reducible refine (laws_eqWord.calls t344 t345 t346 t347 t348 t349 t323 t324 t325 t326 t327 t328 true _ A59.out).mono ?_); rintro e w70 ⟨rfl, hb⟩; refine ⟨_, rfl, ?_⟩; have n0_ := Aside0.mk (Kd.R_below (by (with_reducible repeat (first | apply Kd.R_alloc | apply Kd.R_drewN | apply Kd.R_drew)); exact (f6 (Kd.R_mono HO313.out (fun k_ hk => (⟨hk, hk.2.2⟩ : _ ∧ k_ ≠ gb351))))) hb); have n1_ := Aside0.mk (Kd.R_below (by (with_reducible repeat (first | apply Kd.R_alloc | apply Kd.R_drewN | apply Kd.R_drew)); exact (f6 (Kd.R_types HO316.out BK351.out (by decide)))) hb); have n2_ := Aside0.mk (Kd.R_below (by (with_reducible repeat (first | apply Kd.R_alloc | apply Kd.R_drewN | apply Kd.R_drew)); exact (f6 (Kd.R_mono HO333.out (fun k_ hk => (⟨hk, hk.2.2⟩ : _ ∧ k_ ≠ gb351))))) hb); have n3_ := Aside0.mk (Kd.R_below (by (with_reducible repeat (first | apply Kd.R_alloc | apply Kd.R_drewN | apply Kd.R_drew)); exact (f6 (Kd.R_types HO336.out BK351.out (by decide)))) hb); have n4_ := nblk BK308 hb; have n5_ := nblk BK309 hb; have n6_ := nblk BK330 hb; have n7_ := nblk BK337 hb; have n8_ := Aside0.mk (blk_below (g := gb351) (o := .cells #[.int .i64 t344, .bool t345, .int .i64 t346, .int .i64 t347, .int .i64 t348, .int .i64 t349] 33 (0, 0)) (by (with_reducible repeat (first | refine blk_drewN ?_ _ | refine blk_drew ?_ | refine blk_alloc ?_ _)); refine blk_put (cs := #[.int .i64 t344, .bool t345, .int .i64 t346, .int .i64 t347, .int .i64 t348, .int .i64 0]) ?_ 5 _ rfl; (with_reducible repeat (first | refine blk_drewN ?_ _ | refine blk_drew ?_ | refine blk_alloc ?_ _)); refine blk_put (cs := #[.int .i64 t344, .bool t345, .int .i64 t346, .int .i64 t347, .int .i64 0, .int .i64 0]) ?_ 4 _ rfl; (with_reducible repeat (first | refine blk_drewN ?_ _ | refine blk_drew ?_ | refine blk_alloc ?_ _)); refine blk_put (cs := #[.int .i64 t344, .bool t345, .int .i64 t346, .int .i64 0, .int .i64 0, .int .i64 0]) ?_ 3 _ rfl; (with_reducible repeat (first | refine blk_drewN ?_ _ | refine blk_drew ?_ | refine blk_alloc ?_ _)); refine blk_put (cs := #[.int .i64 t344, .bool t345, .int .i64 0, .int .i64 0, .int .i64 0, .int .i64 0]) ?_ 2 _ rfl; (with_reducible repeat (first | refine blk_drewN ?_ _ | refine blk_drew ?_ | refine blk_alloc ?_ _)); refine blk_put (cs := #[.int .i64 t344, .bool false, .int .i64 0, .int .i64 0, .int .i64 0, .int .i64 0]) ?_ 1 _ rfl; (with_reducible repeat (first | refine blk_drewN ?_ _ | refine blk_drew ?_ | refine blk_alloc ?_ _)); refine blk_put (cs := #[.int .i64 0, .bool false, .int .i64 0, .int .i64 0, .int .i64 0, .int .i64 0]) ?_ 0 _ rfl; (with_reducible repeat (first | refine blk_drewN ?_ _ | refine blk_drew ?_ | refine blk_alloc ?_ _)); exact BK351.out) hb); have n9_ := nbs HB hb; clear HO313 HO316 HO333 HO336 BK308 BK309 BK330 BK337 BK351 HB; have HO313 := n0_; have HO316 := n1_; have HO333 := n2_; have HO336 := n3_; have BK308 := n4_; have BK309 := n5_; have BK330 := n6_; have BK337 := n7_; have BK351 := n8_; have HB := n9_; clear n0_ n1_ n2_ n3_ n4_ n5_ n6_ n7_ n8_ n9_; (try clear hb)))
    go_meet
    case rel => exact ⟨_, ((t350 != t329)), (by first | rfl | (simp; done) | (simp [*]; done)), H', ⟨by first | omega | exact Nat.le_refl _⟩, ⟨by (with_reducible repeat (first | apply Kd.R_alloc | apply Kd.R_drewN | apply Kd.R_drew)); exact Kd.R_mono HO333.out (fun _ hk => ⟨hk.2.1, hk.2.2⟩)⟩, ⟨by (with_reducible repeat (first | apply Kd.R_alloc | apply Kd.R_drewN | apply Kd.R_drew)); exact Kd.R_mono HO336.out (fun _ hk => trivial)⟩, ⟨by (with_reducible repeat (first | refine blk_drewN ?_ _ | refine blk_drew ?_ | refine blk_alloc ?_ _)); exact BK308.out⟩, ⟨by (with_reducible repeat (first | refine blk_drewN ?_ _ | refine blk_drew ?_ | refine blk_alloc ?_ _)); exact BK309.out⟩, ⟨by (with_reducible repeat (first | refine blk_drewN ?_ _ | refine blk_drew ?_ | refine blk_alloc ?_ _)); exact BK330.out⟩, ⟨by (with_reducible repeat (first | refine blk_drewN ?_ _ | refine blk_drew ?_ | refine blk_alloc ?_ _)); exact BK337.out⟩, ⟨by (with_reducible repeat (first | refine blk_drewN ?_ _ | refine blk_drew ?_ | refine blk_alloc ?_ _)); exact BK351.out⟩, ⟨by repeat (first | (with_reducible first | exact HB.out | apply below_alloc | apply pw_below_drewN | apply below_drew1 | refine below_set ?_ GE308.out | refine below_set ?_ GE309.out | refine below_set ?_ GE330.out | refine below_set ?_ GE337.out | refine below_set ?_ GE351.out) | exact HB.out)⟩⟩
   ·replace c60 := Bool.eq_false_iff.mpr c60
    subst c60
    have H1 : (laws_FnExactRead.j0 k true l0_0 l0_1 t331 t334) = some r := by rw [if_neg (show ¬ (false = true) by decide)] at H; exact H
    clear H
    have H := H1
    clear H1
    have H' := Aside0.mk H
    clear H
    have hnb71 := NB351_308.out
    have hnc71 := NB308_351.out
    have hnb72 := NB351_309.out
    have hnc72 := NB309_351.out
    have hnb73 := NB351_330.out
    have hnc73 := NB330_351.out
    have hnb74 := NB351_337.out
    have hnc74 := NB337_351.out
    have hcz75_0 : w52.cell? ⟨gb351, 0, none⟩ = some (.int .i64 0) := (blk_cell BK351.out 0).trans rfl
    have hcz75_1 : w52.cell? ⟨gb351, 1, none⟩ = some (.bool false) := (blk_cell BK351.out 1).trans rfl
    have hcz75_2 : w52.cell? ⟨gb351, 2, none⟩ = some (.int .i64 0) := (blk_cell BK351.out 2).trans rfl
    have hcz75_3 : w52.cell? ⟨gb351, 3, none⟩ = some (.int .i64 0) := (blk_cell BK351.out 3).trans rfl
    have hcz75_4 : w52.cell? ⟨gb351, 4, none⟩ = some (.int .i64 0) := (blk_cell BK351.out 4).trans rfl
    have hcz75_5 : w52.cell? ⟨gb351, 5, none⟩ = some (.int .i64 0) := (blk_cell BK351.out 5).trans rfl
    have hfz75_0 := blk_frozen BK351.out 0
    have hfz75_1 := blk_frozen BK351.out 1
    have hfz75_2 := blk_frozen BK351.out 2
    have hfz75_3 := blk_frozen BK351.out 3
    have hfz75_4 := blk_frozen BK351.out 4
    have hfz75_5 := blk_frozen BK351.out 5
    have hnb76 := NB330_308.out
    have hnc76 := NB308_330.out
    have hnb77 := NB330_309.out
    have hnc77 := NB309_330.out
    have hnb78 := NB330_337.out
    have hnc78 := NB337_330.out
    have hcz79_0 : w52.cell? ⟨gb330, 0, none⟩ = some (.int .i64 t323) := (blk_cell BK330.out 0).trans rfl
    have hcz79_1 : w52.cell? ⟨gb330, 1, none⟩ = some (.bool t324) := (blk_cell BK330.out 1).trans rfl
    have hcz79_2 : w52.cell? ⟨gb330, 2, none⟩ = some (.int .i64 t325) := (blk_cell BK330.out 2).trans rfl
    have hcz79_3 : w52.cell? ⟨gb330, 3, none⟩ = some (.int .i64 t326) := (blk_cell BK330.out 3).trans rfl
    have hcz79_4 : w52.cell? ⟨gb330, 4, none⟩ = some (.int .i64 t327) := (blk_cell BK330.out 4).trans rfl
    have hcz79_5 : w52.cell? ⟨gb330, 5, none⟩ = some (.int .i64 t328) := (blk_cell BK330.out 5).trans rfl
    have hfz79_0 := blk_frozen BK330.out 0
    have hfz79_1 := blk_frozen BK330.out 1
    have hfz79_2 := blk_frozen BK330.out 2
    have hfz79_3 := blk_frozen BK330.out 3
    have hfz79_4 := blk_frozen BK330.out 4
    have hfz79_5 := blk_frozen BK330.out 5
    go_wp2_with (first | ((with_reducible refine gate_callee (f := 17) rfl ?_); refine goesM (some 39) rfl rfl Try.func17 (by kernel_rfl) rfl #[.agg #[.int .i64 t344, .bool t345, .int .i64 t346, .int .i64 t347, .int .i64 t348, .int .i64 t349], .agg #[.int .i64 t323, .bool t324, .int .i64 t325, .int .i64 t326, .int .i64 t327, .int .i64 t328]] rfl ?_; (with_reducible refine (laws_eqWord.calls t344 t345 t346 t347 t348 t349 t323 t324 t325 t326 t327 t328 false _ A59.out).mono ?_); rintro e w80 ⟨rfl, hb⟩; refine ⟨_, rfl, ?_⟩; have n0_ := Aside0.mk (Kd.R_below (by (with_reducible repeat (first | apply Kd.R_alloc | apply Kd.R_drewN | apply Kd.R_drew)); exact (f6 (Kd.R_mono HO313.out (fun k_ hk => (⟨hk, hk.2.2⟩ : _ ∧ k_ ≠ gb351))))) hb); have n1_ := Aside0.mk (Kd.R_below (by (with_reducible repeat (first | apply Kd.R_alloc | apply Kd.R_drewN | apply Kd.R_drew)); exact (f6 (Kd.R_types HO316.out BK351.out (by decide)))) hb); have n2_ := Aside0.mk (Kd.R_below (by (with_reducible repeat (first | apply Kd.R_alloc | apply Kd.R_drewN | apply Kd.R_drew)); exact (f6 (Kd.R_mono HO333.out (fun k_ hk => (⟨hk, hk.2.2⟩ : _ ∧ k_ ≠ gb351))))) hb); have n3_ := Aside0.mk (Kd.R_below (by (with_reducible repeat (first | apply Kd.R_alloc | apply Kd.R_drewN | apply Kd.R_drew)); exact (f6 (Kd.R_types HO336.out BK351.out (by decide)))) hb); have n4_ := nblk BK308 hb; have n5_ := nblk BK309 hb; have n6_ := nblk BK330 hb; have n7_ := nblk BK337 hb; have n8_ := Aside0.mk (blk_below (g := gb351) (o := .cells #[.int .i64 t344, .bool t345, .int .i64 t346, .int .i64 t347, .int .i64 t348, .int .i64 t349] 33 (0, 0)) (by (with_reducible repeat (first | refine blk_drewN ?_ _ | refine blk_drew ?_ | refine blk_alloc ?_ _)); refine blk_put (cs := #[.int .i64 t344, .bool t345, .int .i64 t346, .int .i64 t347, .int .i64 t348, .int .i64 0]) ?_ 5 _ rfl; (with_reducible repeat (first | refine blk_drewN ?_ _ | refine blk_drew ?_ | refine blk_alloc ?_ _)); refine blk_put (cs := #[.int .i64 t344, .bool t345, .int .i64 t346, .int .i64 t347, .int .i64 0, .int .i64 0]) ?_ 4 _ rfl; (with_reducible repeat (first | refine blk_drewN ?_ _ | refine blk_drew ?_ | refine blk_alloc ?_ _)); refine blk_put (cs := #[.int .i64 t344, .bool t345, .int .i64 t346, .int .i64 0, .int .i64 0, .int .i64 0]) ?_ 3 _ rfl; (with_reducible repeat (first | refine blk_drewN ?_ _ | refine blk_drew ?_ | refine blk_alloc ?_ _)); refine blk_put (cs := #[.int .i64 t344, .bool t345, .int .i64 0, .int .i64 0, .int .i64 0, .int .i64 0]) ?_ 2 _ rfl; (with_reducible repeat (first | refine blk_drewN ?_ _ | refine blk_drew ?_ | refine blk_alloc ?_ _)); refine blk_put (cs := #[.int .i64 t344, .bool false, .int .i64 0, .int .i64 0, .int .i64 0, .int .i64 0]) ?_ 1 _ rfl; (with_reducible repeat (first | refine blk_drewN ?_ _ | refine blk_drew ?_ | refine blk_alloc ?_ _)); refine blk_put (cs := #[.int .i64 0, .bool false, .int .i64 0, .int .i64 0, .int .i64 0, .int .i64 0]) ?_ 0 _ rfl; (with_reducible repeat (first | refine blk_drewN ?_ _ | refine blk_drew ?_ | refine blk_alloc ?_ _)); exact BK351.out) hb); have n9_ := nbs HB hb; clear HO313 HO316 HO333 HO336 BK308 BK309 BK330 BK337 BK351 HB; have HO313 := n0_; have HO316 := n1_; have HO333 := n2_; have HO336 := n3_; have BK308 := n4_; have BK309 := n5_; have BK330 := n6_; have BK337 := n7_; have BK351 := n8_; have HB := n9_; clear n0_ n1_ n2_ n3_ n4_ n5_ n6_ n7_ n8_ n9_; (try clear hb)))
    go_meet
    case rel => exact ⟨_, (true), (by first | rfl | (simp; done) | (simp [*]; done)), H', ⟨by first | omega | exact Nat.le_refl _⟩, ⟨by (with_reducible repeat (first | apply Kd.R_alloc | apply Kd.R_drewN | apply Kd.R_drew)); exact Kd.R_mono HO333.out (fun _ hk => ⟨hk.2.1, hk.2.2⟩)⟩, ⟨by (with_reducible repeat (first | apply Kd.R_alloc | apply Kd.R_drewN | apply Kd.R_drew)); exact Kd.R_mono HO336.out (fun _ hk => trivial)⟩, ⟨by (with_reducible repeat (first | refine blk_drewN ?_ _ | refine blk_drew ?_ | refine blk_alloc ?_ _)); exact BK308.out⟩, ⟨by (with_reducible repeat (first | refine blk_drewN ?_ _ | refine blk_drew ?_ | refine blk_alloc ?_ _)); exact BK309.out⟩, ⟨by (with_reducible repeat (first | refine blk_drewN ?_ _ | refine blk_drew ?_ | refine blk_alloc ?_ _)); exact BK330.out⟩, ⟨by (with_reducible repeat (first | refine blk_drewN ?_ _ | refine blk_drew ?_ | refine blk_alloc ?_ _)); exact BK337.out⟩, ⟨by (with_reducible repeat (first | refine blk_drewN ?_ _ | refine blk_drew ?_ | refine blk_alloc ?_ _)); exact BK351.out⟩, ⟨by repeat (first | (with_reducible first | exact HB.out | apply below_alloc | apply pw_below_drewN | apply below_drew1 | refine below_set ?_ GE308.out | refine below_set ?_ GE309.out | refine below_set ?_ GE330.out | refine below_set ?_ GE337.out | refine below_set ?_ GE351.out) | exact HB.out)⟩⟩
  case rest =>
   clear HC17
   try clear c1
   try clear c2
   try clear p2
   try clear c6
   try clear c7
   try clear c15
   try clear c17
   try clear c26
   try clear c60
   try clear c61
   try clear c62
   try clear c63
   try clear c64
   try clear c66
   try clear c67
   try clear c68
   try clear c71
   try clear c72
   try clear c73
   try clear c74
   try clear c76
   try clear c77
   try clear c78
   try clear hcz65_0
   try clear hcz65_1
   try clear hcz65_2
   try clear hcz65_3
   try clear hcz65_4
   try clear hcz65_5
   try clear hcz69_0
   try clear hcz69_1
   try clear hcz69_2
   try clear hcz69_3
   try clear hcz69_4
   try clear hcz69_5
   try clear hcz75_0
   try clear hcz75_1
   try clear hcz75_2
   try clear hcz75_3
   try clear hcz75_4
   try clear hcz75_5
   try clear hcz79_0
   try clear hcz79_1
   try clear hcz79_2
   try clear hcz79_3
   try clear hcz79_4
   try clear hcz79_5
   try clear hfz65_0
   try clear hfz65_1
   try clear hfz65_2
   try clear hfz65_3
   try clear hfz65_4
   try clear hfz65_5
   try clear hfz69_0
   try clear hfz69_1
   try clear hfz69_2
   try clear hfz69_3
   try clear hfz69_4
   try clear hfz69_5
   try clear hfz75_0
   try clear hfz75_1
   try clear hfz75_2
   try clear hfz75_3
   try clear hfz75_4
   try clear hfz75_5
   try clear hfz79_0
   try clear hfz79_1
   try clear hfz79_2
   try clear hfz79_3
   try clear hfz79_4
   try clear hfz79_5
   obtain ⟨kq, x45_16, rfl, HA, HJ16, HO_338000, HO_338001, BK308, BK309, BK330, BK337, BK351, HB⟩ := hcut
   cases kq with
   | zero => exact absurd HA.out (by simp [laws_FnExactRead.j0])
   | succ kj16 =>
    have H := HA.out
    clear HA
    simp only [laws_FnExactRead.j0] at H
    by_cases c81 : x45_16 = true
    ·subst c81
     have H1 : (some false) = some r := by rw [if_pos rfl] at H; exact H
     clear H
     have H := H1
     clear H1
     obtain rfl := Option.some.inj H
     go_wp2
     go_ret
     exact ⟨by first | rfl | (simp [errW_none, errW_some] <;> rfl) | (simp [*, errW_none, errW_some] <;> rfl), by repeat (first | (with_reducible first | exact HB.out | apply below_alloc | apply pw_below_drewN | apply below_drew1 | refine below_set ?_ GE308.out | refine below_set ?_ GE309.out | refine below_set ?_ GE330.out | refine below_set ?_ GE337.out | refine below_set ?_ GE351.out) | exact HB.out)⟩
    ·replace c81 := Bool.eq_false_iff.mpr c81
     subst c81
     have H1 : ((laws_toMemory.f kj16 l0_0 l0_1).bind fun bt353 => ((laws_eqMemory.f kj16 t331 t334 bt353.1 bt353.2).bind fun t359 => (if t359 = true then (some true) else (some false)))) = some r := by rw [if_neg (show ¬ (false = true) by decide)] at H; exact H
     clear H
     have H := H1
     clear H1
     replace H := Option.bind_eq_some_iff.mp H
     obtain ⟨⟨t353, t356⟩, A820, H⟩ := H
     replace H : ((laws_eqMemory.f kj16 t331 t334 t353 t356).bind fun t359 => (if t359 = true then (some true) else (some false))) = some r := H
     have A82 := Aside0.mk A820
     clear A820
     replace H := Option.bind_eq_some_iff.mp H
     obtain ⟨t359, A830, H⟩ := H
     replace H : (if t359 = true then (some true) else (some false)) = some r := H
     have A83 := Aside0.mk A830
     clear A830
     by_cases c84 : t359 = true
     ·subst c84
      have H1 : (some true) = some r := by rw [if_pos rfl] at H; exact H
      clear H
      have H := H1
      clear H1
      obtain rfl := Option.some.inj H
      try go_wp2
      have n0_ := Aside0.mk (Kd.R_drew HO_338000.out)
      have n1_ := Aside0.mk (Kd.R_drew HO_338001.out)
      have n2_ := Aside0.mk (blk_drew BK308.out)
      have n3_ := Aside0.mk (blk_drew BK309.out)
      have n4_ := Aside0.mk (blk_drew BK330.out)
      have n5_ := Aside0.mk (blk_drew BK337.out)
      have n6_ := Aside0.mk (blk_drew BK351.out)
      have n7_ := Aside0.mk (below_drew1 HB.out)
      clear HO_338000 HO_338001 BK308 BK309 BK330 BK337 BK351 HB
      have HO_338000 := n0_
      have HO_338001 := n1_
      have BK308 := n2_
      have BK309 := n3_
      have BK330 := n4_
      have BK337 := n5_
      have BK351 := n6_
      have HB := n7_
      clear n0_ n1_ n2_ n3_ n4_ n5_ n6_ n7_
      refine start_ (n := 5) (S := fun w' => w'.cell? ⟨gb337, 0, none⟩ = some (.slice Ao41 t331.length co41) ∧ w'.cell? ⟨gb337, 1, none⟩ = some (.slice Ao46 t334.length co46) ∧ w'.cell? ⟨gb308, 0, none⟩ = some (.slice A0_0 l0_0.length c0_0) ∧ w'.cell? ⟨gb308, 1, none⟩ = some (.slice A0_1 l0_1.length c0_1)) (ds := []) #[false, false, false, false, false] (by kernel_rfl) rfl rfl (c2 BK337 (c2e BK308)) (fun hHeld => ?_)
      generalize wc.drew = w85 at HO_338000 HO_338001 BK308 BK309 BK330 BK337 BK351 HB hHeld ⊢
      refine take_ (i := 0) (N := some 46) (v := ?_) (a' := ?_) #[true, false, false, false, false] rfl rfl (by kernel_rfl) (fun _ _ _ h => h) (Or.inl ⟨by rfl, ?_⟩) hHeld ?_ ?_
      rotate_left
      ·rintro w' ⟨s0, s1, s2, s3⟩
       go_simp
       with_reducible rfl
      rotate_left
      ·simp only [Act.put, List.setIfInBounds_toArray, List.set_cons_zero, List.set_cons_succ, i64_w, i32_w]
       rfl
      refine take_ (i := 1) (N := some 47) (v := ?_) (a' := ?_) #[true, true, false, false, false] rfl rfl (by kernel_rfl) (fun _ _ _ h => h) (Or.inl ⟨by rfl, ?_⟩) hHeld ?_ ?_
      rotate_left
      ·rintro w' ⟨s0, s1, s2, s3⟩
       go_simp
       with_reducible rfl
      rotate_left
      ·simp only [Act.put, List.setIfInBounds_toArray, List.set_cons_zero, List.set_cons_succ, i64_w, i32_w]
       rfl
      refine one_ (i := 2) (N := some 48) #[true, true, true, false, false] rfl rfl (by kernel_rfl) (by decide) (fun K hK => ?_)
      refine goesR Try.func14 (by kernel_rfl) rfl #[.agg #[.slice A0_0 l0_0.length c0_0, .slice A0_1 l0_1.length c0_1]] (by rfl) rfl rfl ?_
      with_reducible refine (laws_toMemory.calls kj16 _ _ l0_0 _ _ l0_1 t353 t356 _ ?side1 ?side2 ?side3 ?side4 A82.out).mono ?_
      (case side1 => repeat (first | exact (Kd.C_below HR0_0.out HB.out) | (with_reducible refine Kd.C_alloc ?_ _) | (with_reducible refine Kd.C_drewN ?_ _) | (with_reducible refine Kd.C_drew ?_)))
      (case side2 => exact HC0_0.out)
      (case side3 => repeat (first | exact (Kd.C_below HR0_1.out HB.out) | (with_reducible refine Kd.C_alloc ?_ _) | (with_reducible refine Kd.C_drewN ?_ _) | (with_reducible refine Kd.C_drew ?_)))
      (case side4 => exact HC0_1.out)
      rintro e w86 ⟨v354, v357, rfl, ho0, ho1, hb⟩
      refine ⟨_, rfl, ?_⟩
      have n0_ := Aside0.mk (Kd.R_elder' (nRo HO_338000) (Kd.R_base ho0) hb)
      have n1_ := Aside0.mk (Kd.R_elder' (nRo HO_338001) (Kd.R_base ho1) hb)
      have n2_ := Aside0.mk (Kd.R_lower (Kd.R_newB (Kd.R_newB (Kd.R_new' ho0 (Kd.R_lt (nRo HO_338000))) (g := gb330) (o := .cells #[.int .i64 t323, .bool t324, .int .i64 t325, .int .i64 t326, .int .i64 t327, .int .i64 t328] 33 (0, 0)) (nb BK330)) (g := gb351) (o := .cells #[.int .i64 t344, .bool t345, .int .i64 t346, .int .i64 t347, .int .i64 t348, .int .i64 t349] 33 (0, 0)) (nb BK351)) (below_size (by repeat (first | (with_reducible first | exact HB.out | apply below_alloc | apply pw_below_drewN | apply below_drew1 | refine below_set ?_ GE308.out | refine below_set ?_ GE309.out | refine below_set ?_ GE330.out | refine below_set ?_ GE337.out | refine below_set ?_ GE351.out) | exact HB.out))))
      have n3_ := Aside0.mk (Kd.R_lower (Kd.R_new' ho1 (Kd.R_lt (nRo HO_338001))) (below_size (by repeat (first | (with_reducible first | exact HB.out | apply below_alloc | apply pw_below_drewN | apply below_drew1 | refine below_set ?_ GE308.out | refine below_set ?_ GE309.out | refine below_set ?_ GE330.out | refine below_set ?_ GE337.out | refine below_set ?_ GE351.out) | exact HB.out))))
      have n4_ := nblk BK308 hb
      have n5_ := nblk BK309 hb
      have n6_ := nblk BK330 hb
      have n7_ := nblk BK337 hb
      have n8_ := nblk BK351 hb
      have n9_ := nbs HB hb
      clear HO_338000 HO_338001 BK308 BK309 BK330 BK337 BK351 HB
      have HO_338000 := n0_
      have HO_338001 := n1_
      have HO355 := n2_
      have HO358 := n3_
      have BK308 := n4_
      have BK309 := n5_
      have BK330 := n6_
      have BK337 := n7_
      have BK351 := n8_
      have HB := n9_
      clear n0_ n1_ n2_ n3_ n4_ n5_ n6_ n7_ n8_ n9_
      (try clear hb)
      (try clear ho0)
      (try clear ho1)
      obtain ⟨Ao87, co87, eo87⟩ := Kd.R_slice HO355.out
      (first | subst eo87 | (injection eo87 with f1_ f2_ f3_; have f4_ := f1_.symm; have f5_ := f3_.symm; clear f1_ f2_ f3_; subst f4_; subst f5_))
      obtain ⟨Ao88, co88, eo88⟩ := Kd.R_slice HO358.out
      (first | subst eo88 | (injection eo88 with f1_ f2_ f3_; have f4_ := f1_.symm; have f5_ := f3_.symm; clear f1_ f2_ f3_; subst f4_; subst f5_))
      refine hK.out _ _ (c2 BK337 (c2e BK308)) (fun hHeld => ?_)
      clear hK K
      refine norm_ (a' := ?_) ?_ ?_
      rotate_left
      ·show Act.put _ (some 48) _ = _
       simp only [Act.put, List.setIfInBounds_toArray, List.set_cons_zero, List.set_cons_succ, i64_w, i32_w]
       rfl
      refine one_ (i := 3) (N := some 49) #[true, true, true, true, false] rfl rfl (by kernel_rfl) (by decide) (fun K hK => ?_)
      refine goesR Try.func18 (by kernel_rfl) rfl #[.agg #[.slice Ao41 t331.length co41, .slice Ao46 t334.length co46], .agg #[.slice Ao87 t353.length co87, .slice Ao88 t356.length co88]] (by rfl) rfl rfl ?_
      with_reducible refine (laws_eqMemory.calls kj16 _ _ t331 _ _ t334 _ _ t353 _ _ t356 true _ ?side1 ?side2 ?side3 ?side4 ?side5 ?side6 ?side7 ?side8 A83.out).mono ?_
      (case side1 => repeat (first | exact (Kd.R_reads' HO_338000.out).2.2 | (with_reducible refine Kd.C_alloc ?_ _) | (with_reducible refine Kd.C_drewN ?_ _) | (with_reducible refine Kd.C_drew ?_)))
      (case side2 => exact (Kd.R_reads' HO_338000.out).2.1)
      (case side3 => repeat (first | exact (Kd.R_reads' HO_338001.out).2.2 | (with_reducible refine Kd.C_alloc ?_ _) | (with_reducible refine Kd.C_drewN ?_ _) | (with_reducible refine Kd.C_drew ?_)))
      (case side4 => exact (Kd.R_reads' HO_338001.out).2.1)
      (case side5 => repeat (first | exact (Kd.R_reads' HO355.out).2.2 | (with_reducible refine Kd.C_alloc ?_ _) | (with_reducible refine Kd.C_drewN ?_ _) | (with_reducible refine Kd.C_drew ?_)))
      (case side6 => exact (Kd.R_reads' HO355.out).2.1)
      (case side7 => repeat (first | exact (Kd.R_reads' HO358.out).2.2 | (with_reducible refine Kd.C_alloc ?_ _) | (with_reducible refine Kd.C_drewN ?_ _) | (with_reducible refine Kd.C_drew ?_)))
      (case side8 => exact (Kd.R_reads' HO358.out).2.1)
      rintro e w89 ⟨rfl, hb⟩
      refine ⟨_, rfl, ?_⟩
      have n0_ := nR HO_338000 hb
      have n1_ := nR HO_338001 hb
      have n2_ := nR HO355 hb
      have n3_ := nR HO358 hb
      have n4_ := nblk BK308 hb
      have n5_ := nblk BK309 hb
      have n6_ := nblk BK330 hb
      have n7_ := nblk BK337 hb
      have n8_ := nblk BK351 hb
      have n9_ := nbs HB hb
      clear HO_338000 HO_338001 HO355 HO358 BK308 BK309 BK330 BK337 BK351 HB
      have HO_338000 := n0_
      have HO_338001 := n1_
      have HO355 := n2_
      have HO358 := n3_
      have BK308 := n4_
      have BK309 := n5_
      have BK330 := n6_
      have BK337 := n7_
      have BK351 := n8_
      have HB := n9_
      clear n0_ n1_ n2_ n3_ n4_ n5_ n6_ n7_ n8_ n9_
      (try clear hb)
      refine hK.out _ _ (c2 BK337 (c2e BK308)) (fun hHeld => ?_)
      clear hK K
      refine norm_ (a' := ?_) ?_ ?_
      rotate_left
      ·show Act.put _ (some 49) _ = _
       simp only [Act.put, List.setIfInBounds_toArray, List.set_cons_zero, List.set_cons_succ, i64_w, i32_w]
       rfl
      refine pure_ (i := 4) (N := some 50) (v := ?_) (a' := ?_) #[true, true, true, true, true] rfl rfl (by kernel_rfl) (fun _ _ _ h => h) (Or.inl ⟨by rfl, ?_⟩) ?_ ?_
      rotate_left
      ·intro w'
       go_simp
       with_reducible rfl
      rotate_left
      ·simp only [Act.put, List.setIfInBounds_toArray, List.set_cons_zero, List.set_cons_succ, i64_w, i32_w]
       rfl
      refine done_ (by kernel_rfl) ?_
      try go_wp2
      go_ret
      exact ⟨by first | rfl | (simp [errW_none, errW_some] <;> rfl) | (simp [*, errW_none, errW_some] <;> rfl), by repeat (first | (with_reducible first | exact HB.out | apply below_alloc | apply pw_below_drewN | apply below_drew1 | refine below_set ?_ GE308.out | refine below_set ?_ GE309.out | refine below_set ?_ GE330.out | refine below_set ?_ GE337.out | refine below_set ?_ GE351.out) | exact HB.out)⟩
     ·replace c84 := Bool.eq_false_iff.mpr c84
      subst c84
      have H1 : (some false) = some r := by rw [if_neg (show ¬ (false = true) by decide)] at H; exact H
      clear H
      have H := H1
      clear H1
      obtain rfl := Option.some.inj H
      try go_wp2
      have n0_ := Aside0.mk (Kd.R_drew HO_338000.out)
      have n1_ := Aside0.mk (Kd.R_drew HO_338001.out)
      have n2_ := Aside0.mk (blk_drew BK308.out)
      have n3_ := Aside0.mk (blk_drew BK309.out)
      have n4_ := Aside0.mk (blk_drew BK330.out)
      have n5_ := Aside0.mk (blk_drew BK337.out)
      have n6_ := Aside0.mk (blk_drew BK351.out)
      have n7_ := Aside0.mk (below_drew1 HB.out)
      clear HO_338000 HO_338001 BK308 BK309 BK330 BK337 BK351 HB
      have HO_338000 := n0_
      have HO_338001 := n1_
      have BK308 := n2_
      have BK309 := n3_
      have BK330 := n4_
      have BK337 := n5_
      have BK351 := n6_
      have HB := n7_
      clear n0_ n1_ n2_ n3_ n4_ n5_ n6_ n7_
      refine start_ (n := 5) (S := fun w' => w'.cell? ⟨gb337, 0, none⟩ = some (.slice Ao41 t331.length co41) ∧ w'.cell? ⟨gb337, 1, none⟩ = some (.slice Ao46 t334.length co46) ∧ w'.cell? ⟨gb308, 0, none⟩ = some (.slice A0_0 l0_0.length c0_0) ∧ w'.cell? ⟨gb308, 1, none⟩ = some (.slice A0_1 l0_1.length c0_1)) (ds := []) #[false, false, false, false, false] (by kernel_rfl) rfl rfl (c2 BK337 (c2e BK308)) (fun hHeld => ?_)
      generalize wc.drew = w90 at HO_338000 HO_338001 BK308 BK309 BK330 BK337 BK351 HB hHeld ⊢
      refine take_ (i := 0) (N := some 46) (v := ?_) (a' := ?_) #[true, false, false, false, false] rfl rfl (by kernel_rfl) (fun _ _ _ h => h) (Or.inl ⟨by rfl, ?_⟩) hHeld ?_ ?_
      rotate_left
      ·rintro w' ⟨s0, s1, s2, s3⟩
       go_simp
       with_reducible rfl
      rotate_left
      ·simp only [Act.put, List.setIfInBounds_toArray, List.set_cons_zero, List.set_cons_succ, i64_w, i32_w]
       rfl
      refine take_ (i := 1) (N := some 47) (v := ?_) (a' := ?_) #[true, true, false, false, false] rfl rfl (by kernel_rfl) (fun _ _ _ h => h) (Or.inl ⟨by rfl, ?_⟩) hHeld ?_ ?_
      rotate_left
      ·rintro w' ⟨s0, s1, s2, s3⟩
       go_simp
       with_reducible rfl
      rotate_left
      ·simp only [Act.put, List.setIfInBounds_toArray, List.set_cons_zero, List.set_cons_succ, i64_w, i32_w]
       rfl
      refine one_ (i := 2) (N := some 48) #[true, true, true, false, false] rfl rfl (by kernel_rfl) (by decide) (fun K hK => ?_)
      refine goesR Try.func14 (by kernel_rfl) rfl #[.agg #[.slice A0_0 l0_0.length c0_0, .slice A0_1 l0_1.length c0_1]] (by rfl) rfl rfl ?_
      with_reducible refine (laws_toMemory.calls kj16 _ _ l0_0 _ _ l0_1 t353 t356 _ ?side1 ?side2 ?side3 ?side4 A82.out).mono ?_
      (case side1 => repeat (first | exact (Kd.C_below HR0_0.out HB.out) | (with_reducible refine Kd.C_alloc ?_ _) | (with_reducible refine Kd.C_drewN ?_ _) | (with_reducible refine Kd.C_drew ?_)))
      (case side2 => exact HC0_0.out)
      (case side3 => repeat (first | exact (Kd.C_below HR0_1.out HB.out) | (with_reducible refine Kd.C_alloc ?_ _) | (with_reducible refine Kd.C_drewN ?_ _) | (with_reducible refine Kd.C_drew ?_)))
      (case side4 => exact HC0_1.out)
      rintro e w91 ⟨v354, v357, rfl, ho0, ho1, hb⟩
      refine ⟨_, rfl, ?_⟩
      have n0_ := Aside0.mk (Kd.R_elder' (nRo HO_338000) (Kd.R_base ho0) hb)
      have n1_ := Aside0.mk (Kd.R_elder' (nRo HO_338001) (Kd.R_base ho1) hb)
      have n2_ := Aside0.mk (Kd.R_lower (Kd.R_newB (Kd.R_newB (Kd.R_new' ho0 (Kd.R_lt (nRo HO_338000))) (g := gb330) (o := .cells #[.int .i64 t323, .bool t324, .int .i64 t325, .int .i64 t326, .int .i64 t327, .int .i64 t328] 33 (0, 0)) (nb BK330)) (g := gb351) (o := .cells #[.int .i64 t344, .bool t345, .int .i64 t346, .int .i64 t347, .int .i64 t348, .int .i64 t349] 33 (0, 0)) (nb BK351)) (below_size (by repeat (first | (with_reducible first | exact HB.out | apply below_alloc | apply pw_below_drewN | apply below_drew1 | refine below_set ?_ GE308.out | refine below_set ?_ GE309.out | refine below_set ?_ GE330.out | refine below_set ?_ GE337.out | refine below_set ?_ GE351.out) | exact HB.out))))
      have n3_ := Aside0.mk (Kd.R_lower (Kd.R_new' ho1 (Kd.R_lt (nRo HO_338001))) (below_size (by repeat (first | (with_reducible first | exact HB.out | apply below_alloc | apply pw_below_drewN | apply below_drew1 | refine below_set ?_ GE308.out | refine below_set ?_ GE309.out | refine below_set ?_ GE330.out | refine below_set ?_ GE337.out | refine below_set ?_ GE351.out) | exact HB.out))))
      have n4_ := nblk BK308 hb
      have n5_ := nblk BK309 hb
      have n6_ := nblk BK330 hb
      have n7_ := nblk BK337 hb
      have n8_ := nblk BK351 hb
      have n9_ := nbs HB hb
      clear HO_338000 HO_338001 BK308 BK309 BK330 BK337 BK351 HB
      have HO_338000 := n0_
      have HO_338001 := n1_
      have HO355 := n2_
      have HO358 := n3_
      have BK308 := n4_
      have BK309 := n5_
      have BK330 := n6_
      have BK337 := n7_
      have BK351 := n8_
      have HB := n9_
      clear n0_ n1_ n2_ n3_ n4_ n5_ n6_ n7_ n8_ n9_
      (try clear hb)
      (try clear ho0)
      (try clear ho1)
      obtain ⟨Ao92, co92, eo92⟩ := Kd.R_slice HO355.out
      (first | subst eo92 | (injection eo92 with f1_ f2_ f3_; have f4_ := f1_.symm; have f5_ := f3_.symm; clear f1_ f2_ f3_; subst f4_; subst f5_))
      obtain ⟨Ao93, co93, eo93⟩ := Kd.R_slice HO358.out
      (first | subst eo93 | (injection eo93 with f1_ f2_ f3_; have f4_ := f1_.symm; have f5_ := f3_.symm; clear f1_ f2_ f3_; subst f4_; subst f5_))
      refine hK.out _ _ (c2 BK337 (c2e BK308)) (fun hHeld => ?_)
      clear hK K
      refine norm_ (a' := ?_) ?_ ?_
      rotate_left
      ·show Act.put _ (some 48) _ = _
       simp only [Act.put, List.setIfInBounds_toArray, List.set_cons_zero, List.set_cons_succ, i64_w, i32_w]
       rfl
      refine one_ (i := 3) (N := some 49) #[true, true, true, true, false] rfl rfl (by kernel_rfl) (by decide) (fun K hK => ?_)
      refine goesR Try.func18 (by kernel_rfl) rfl #[.agg #[.slice Ao41 t331.length co41, .slice Ao46 t334.length co46], .agg #[.slice Ao92 t353.length co92, .slice Ao93 t356.length co93]] (by rfl) rfl rfl ?_
      with_reducible refine (laws_eqMemory.calls kj16 _ _ t331 _ _ t334 _ _ t353 _ _ t356 false _ ?side1 ?side2 ?side3 ?side4 ?side5 ?side6 ?side7 ?side8 A83.out).mono ?_
      (case side1 => repeat (first | exact (Kd.R_reads' HO_338000.out).2.2 | (with_reducible refine Kd.C_alloc ?_ _) | (with_reducible refine Kd.C_drewN ?_ _) | (with_reducible refine Kd.C_drew ?_)))
      (case side2 => exact (Kd.R_reads' HO_338000.out).2.1)
      (case side3 => repeat (first | exact (Kd.R_reads' HO_338001.out).2.2 | (with_reducible refine Kd.C_alloc ?_ _) | (with_reducible refine Kd.C_drewN ?_ _) | (with_reducible refine Kd.C_drew ?_)))
      (case side4 => exact (Kd.R_reads' HO_338001.out).2.1)
      (case side5 => repeat (first | exact (Kd.R_reads' HO355.out).2.2 | (with_reducible refine Kd.C_alloc ?_ _) | (with_reducible refine Kd.C_drewN ?_ _) | (with_reducible refine Kd.C_drew ?_)))
      (case side6 => exact (Kd.R_reads' HO355.out).2.1)
      (case side7 => repeat (first | exact (Kd.R_reads' HO358.out).2.2 | (with_reducible refine Kd.C_alloc ?_ _) | (with_reducible refine Kd.C_drewN ?_ _) | (with_reducible refine Kd.C_drew ?_)))
      (case side8 => exact (Kd.R_reads' HO358.out).2.1)
      rintro e w94 ⟨rfl, hb⟩
      refine ⟨_, rfl, ?_⟩
      have n0_ := nR HO_338000 hb
      have n1_ := nR HO_338001 hb
      have n2_ := nR HO355 hb
      have n3_ := nR HO358 hb
      have n4_ := nblk BK308 hb
      have n5_ := nblk BK309 hb
      have n6_ := nblk BK330 hb
      have n7_ := nblk BK337 hb
      have n8_ := nblk BK351 hb
      have n9_ := nbs HB hb
      clear HO_338000 HO_338001 HO355 HO358 BK308 BK309 BK330 BK337 BK351 HB
      have HO_338000 := n0_
      have HO_338001 := n1_
      have HO355 := n2_
      have HO358 := n3_
      have BK308 := n4_
      have BK309 := n5_
      have BK330 := n6_
      have BK337 := n7_
      have BK351 := n8_
      have HB := n9_
      clear n0_ n1_ n2_ n3_ n4_ n5_ n6_ n7_ n8_ n9_
      (try clear hb)
      refine hK.out _ _ (c2 BK337 (c2e BK308)) (fun hHeld => ?_)
      clear hK K
      refine norm_ (a' := ?_) ?_ ?_
      rotate_left
      ·show Act.put _ (some 49) _ = _
       simp only [Act.put, List.setIfInBounds_toArray, List.set_cons_zero, List.set_cons_succ, i64_w, i32_w]
       rfl
      refine pure_ (i := 4) (N := some 50) (v := ?_) (a' := ?_) #[true, true, true, true, true] rfl rfl (by kernel_rfl) (fun _ _ _ h => h) (Or.inl ⟨by rfl, ?_⟩) ?_ ?_
      rotate_left
      ·intro w'
       go_simp
       with_reducible rfl
      rotate_left
      ·simp only [Act.put, List.setIfInBounds_toArray, List.set_cons_zero, List.set_cons_succ, i64_w, i32_w]
       rfl
      refine done_ (by kernel_rfl) ?_
      try go_wp2
      go_ret
      exact ⟨by first | rfl | (simp [errW_none, errW_some] <;> rfl) | (simp [*, errW_none, errW_some] <;> rfl), by repeat (first | (with_reducible first | exact HB.out | apply below_alloc | apply pw_below_drewN | apply below_drew1 | refine below_set ?_ GE308.out | refine below_set ?_ GE309.out | refine below_set ?_ GE330.out | refine below_set ?_ GE337.out | refine below_set ?_ GE351.out) | exact HB.out)⟩

end Go.Proofs.Ytlblngbhffpfoaa.PFnExactRead
