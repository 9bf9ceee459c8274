-- Written by a program of this session (wip/patch.py turns a copy of the kit's print): the functions that the law reaches, and their walks.
import Derived.Test.YtlblngbhffpfoaaPFnExactSweepx0
import Derived.Test.YtlblngbhffpfoaaPFnExactSweepx7
import Derived.Test.YtlblngbhffpfoaaPFnExactSweepx8
import Derived.Test.YtlblngbhffpfoaaCFnExactSweep
namespace Go.Proofs.Ytlblngbhffpfoaa.PFnExactSweep
open Go.RowKit Go.Proofs.YtlblngbhffpfoaaW.PrintWords Go.Proofs.YtlblngbhffpfoaaW.PrintLast Go.Proofs.YtlblngbhffpfoaaW.PrintMore Go.Proofs.YtlblngbhffpfoaaW.Mine
attribute [local go_sem] max2_int min2_int max_two min_two max_three min_three max_four min_four   -- for this text's walks alone
set_option linter.unusedVariables false
set_option linter.unusedSimpArgs false

/-! ### impl_Sweep: function 30 -/
def impl_Sweep.f (k : Nat) (l0_0 : List (S33)) (l0_1 : List Bool) (a1 : Int) : Option ((List (S33)) × List Bool) := (impl_MemoryOk.f k l0_0 l0_1).bind fun t320 => (if t320 = true then ((impl_cloneMemory.f l0_0 l0_1).bind fun bt321 => ((impl_in.f a1 0 23).bind fun t328 => (if t328 = true then (if 0 ≤ a1 then (if a1 < (l0_0.length : Int) then ((impl_Filter.f l0_0 l0_1 ((rd_T33 l0_0 a1).f0) ((rd_T33 l0_0 a1).f1) ((rd_T33 l0_0 a1).f2.f0) ((rd_T33 l0_0 a1).f2.f1) ((rd_T33 l0_0 a1).f2.f2) ((rd_T33 l0_0 a1).f2.f3)).bind fun bt330 => (if a1 < (bt321.1.length : Int) then (some ((bt321.1.set (a1 : Int).toNat (⟨bt330.1, bt330.2.1, (⟨bt330.2.2.1, bt330.2.2.2.1, bt330.2.2.2.2.1, bt330.2.2.2.2.2⟩ : S31)⟩ : S33)), bt321.2)) else (none))) else (none)) else (none)) else (some (bt321.1, bt321.2))))) else (some (([] : List (S33)), ([] : List Bool))))
theorem impl_Sweep.mono : ∀ a0 a1 a2 k, LeO (impl_Sweep.f k a0 a1 a2) (impl_Sweep.f (k + 1) a0 a1 a2) := by
 intro a0 a1 a2 k
 unfold impl_Sweep.f
 repeat' first
   | (with_reducible exact impl_MemoryOk.mono _ _ _)
   | (with_reducible exact LeO.refl _)
   | (with_reducible exact LeO.none _)
   | (with_reducible refine LeO.ite ?_ ?_)
   | (with_reducible refine LeO.bind ?_ (fun _ => ?_))
   | exact impl_MemoryOk.mono _ _ _
   | exact LeO.none _
   | refine LeO.ite ?_ ?_
   | refine LeO.bind ?_ (fun _ => ?_)
def impl_Sweep.T5 : Bool × List (List Nat × List Nat) := (true, [([], []), ([0], [0]), ([], []), ([], []), ([], []), ([4], [4]), ([], []), ([5, 6], [5, 6]), ([7], [7]), ([3, 8], [3, 8]), ([1, 2, 0, 1, 2, 3, 4, 5, 6, 7, 8, 9], [1, 2]), ([10, 9, 9, 0, 1, 2, 3, 4, 5, 6, 7, 8, 9], [9, 10])])
def impl_Sweep.B5 : List Nat := [0, 1, 0, 0, 0, 16, 0, 112, 240, 504, 1023, 2047]
theorem impl_Sweep.tab5 : rtab .any (opsOf Try.f30 5) = impl_Sweep.T5 := by kernel_rfl
theorem impl_Sweep.bits5 : waitsOk impl_Sweep.T5.2 impl_Sweep.B5 = true := by kernel_rfl
set_option maxHeartbeats 8000000 in
set_option maxRecDepth 100000 in
theorem impl_Sweep.calls (k : Nat) (A0_0 : Option Addr) (c0_0 : Nat) (l0_0 : List (S33)) (A0_1 : Option Addr) (c0_1 : Nat) (l0_1 : List Bool) (a1 : Int) (r1 : List (S33)) (r2 : List Bool) (w : World) (hr0_0 : Kd.C k33 w A0_0 l0_0.length l0_0) (hc0_0 : l0_0.length ≤ c0_0) (hr0_1 : Kd.C Kd.bool w A0_1 l0_1.length l0_1) (hc0_1 : l0_1.length ≤ c0_1) (h : impl_Sweep.f k l0_0 l0_1 a1 = some (r1, r2)) :
  Calls Try.prog 30 #[.agg #[.slice A0_0 l0_0.length c0_0, .slice A0_1 l0_1.length c0_1], .int .i64 a1] w fun e w' => ∃ v0_ v1_ : Value, e = .returned (.agg #[v0_, v1_]) ∧ Kd.R k33 33 w' w.heap.size (fun _ => True) v0_ r1 ∧ Kd.R Kd.bool 4 w' w.heap.size (fun _ => True) v1_ r2 ∧ Below w.heap.size w w' := by
 have hu37 := Try.underlying37
 have hu33 := Try.underlying33
 have HR0_0 := Aside0.mk hr0_0
 have HC0_0 := Aside0.mk hc0_0
 clear hr0_0 hc0_0
 have HR0_1 := Aside0.mk hr0_1
 have HC0_1 := Aside0.mk hc0_1
 clear hr0_1 hc0_1
 have HB := Aside0.mk (Below.refl w.heap.size w)
 have H : ((impl_MemoryOk.f k l0_0 l0_1).bind fun t320 => (if t320 = true then ((impl_cloneMemory.f l0_0 l0_1).bind fun bt321 => ((impl_in.f a1 0 23).bind fun t328 => (if t328 = true then (if 0 ≤ a1 then (if a1 < (l0_0.length : Int) then ((impl_Filter.f l0_0 l0_1 ((rd_T33 l0_0 a1).f0) ((rd_T33 l0_0 a1).f1) ((rd_T33 l0_0 a1).f2.f0) ((rd_T33 l0_0 a1).f2.f1) ((rd_T33 l0_0 a1).f2.f2) ((rd_T33 l0_0 a1).f2.f3)).bind fun bt330 => (if a1 < (bt321.1.length : Int) then (some ((bt321.1.set (a1 : Int).toNat (⟨bt330.1, bt330.2.1, (⟨bt330.2.2.1, bt330.2.2.2.1, bt330.2.2.2.2.1, bt330.2.2.2.2.2⟩ : S31)⟩ : S33)), bt321.2)) else (none))) else (none)) else (none)) else (some (bt321.1, bt321.2))))) else (some (([] : List (S33)), ([] : List Bool))))) = some (r1, r2) := h
 clear h
 replace H := Option.bind_eq_some_iff.mp H
 obtain ⟨t320, A30, H⟩ := H
 replace H : (if t320 = true then ((impl_cloneMemory.f l0_0 l0_1).bind fun bt321 => ((impl_in.f a1 0 23).bind fun t328 => (if t328 = true then (if 0 ≤ a1 then (if a1 < (l0_0.length : Int) then ((impl_Filter.f l0_0 l0_1 ((rd_T33 l0_0 a1).f0) ((rd_T33 l0_0 a1).f1) ((rd_T33 l0_0 a1).f2.f0) ((rd_T33 l0_0 a1).f2.f1) ((rd_T33 l0_0 a1).f2.f2) ((rd_T33 l0_0 a1).f2.f3)).bind fun bt330 => (if a1 < (bt321.1.length : Int) then (some ((bt321.1.set (a1 : Int).toNat (⟨bt330.1, bt330.2.1, (⟨bt330.2.2.1, bt330.2.2.2.1, bt330.2.2.2.2.1, bt330.2.2.2.2.2⟩ : S31)⟩ : S33)), bt321.2)) else (none))) else (none)) else (none)) else (some (bt321.1, bt321.2))))) else (some (([] : List (S33)), ([] : List Bool)))) = some (r1, r2) := H
 have A3 := Aside0.mk A30
 clear A30
 by_cases c4 : t320 = true
 ·subst c4
  have H1 : ((impl_cloneMemory.f l0_0 l0_1).bind fun bt321 => ((impl_in.f a1 0 23).bind fun t328 => (if t328 = true then (if 0 ≤ a1 then (if a1 < (l0_0.length : Int) then ((impl_Filter.f l0_0 l0_1 ((rd_T33 l0_0 a1).f0) ((rd_T33 l0_0 a1).f1) ((rd_T33 l0_0 a1).f2.f0) ((rd_T33 l0_0 a1).f2.f1) ((rd_T33 l0_0 a1).f2.f2) ((rd_T33 l0_0 a1).f2.f3)).bind fun bt330 => (if a1 < (bt321.1.length : Int) then (some ((bt321.1.set (a1 : Int).toNat (⟨bt330.1, bt330.2.1, (⟨bt330.2.2.1, bt330.2.2.2.1, bt330.2.2.2.2.1, bt330.2.2.2.2.2⟩ : S31)⟩ : S33)), bt321.2)) else (none))) else (none)) else (none)) else (some (bt321.1, bt321.2))))) = some (r1, r2) := by rw [if_pos rfl] at H; exact H
  clear H
  have H := H1
  clear H1
  replace H := Option.bind_eq_some_iff.mp H
  obtain ⟨⟨t321, t324⟩, A50, H⟩ := H
  replace H : ((impl_in.f a1 0 23).bind fun t328 => (if t328 = true then (if 0 ≤ a1 then (if a1 < (l0_0.length : Int) then ((impl_Filter.f l0_0 l0_1 ((rd_T33 l0_0 a1).f0) ((rd_T33 l0_0 a1).f1) ((rd_T33 l0_0 a1).f2.f0) ((rd_T33 l0_0 a1).f2.f1) ((rd_T33 l0_0 a1).f2.f2) ((rd_T33 l0_0 a1).f2.f3)).bind fun bt330 => (if a1 < (t321.length : Int) then (some ((t321.set (a1 : Int).toNat (⟨bt330.1, bt330.2.1, (⟨bt330.2.2.1, bt330.2.2.2.1, bt330.2.2.2.2.1, bt330.2.2.2.2.2⟩ : S31)⟩ : S33)), t324)) else (none))) else (none)) else (none)) else (some (t321, t324)))) = some (r1, r2) := H
  have A5 := Aside0.mk A50
  clear A50
  replace H := Option.bind_eq_some_iff.mp H
  obtain ⟨t328, A60, H⟩ := H
  replace H : (if t328 = true then (if 0 ≤ a1 then (if a1 < (l0_0.length : Int) then ((impl_Filter.f l0_0 l0_1 ((rd_T33 l0_0 a1).f0) ((rd_T33 l0_0 a1).f1) ((rd_T33 l0_0 a1).f2.f0) ((rd_T33 l0_0 a1).f2.f1) ((rd_T33 l0_0 a1).f2.f2) ((rd_T33 l0_0 a1).f2.f3)).bind fun bt330 => (if a1 < (t321.length : Int) then (some ((t321.set (a1 : Int).toNat (⟨bt330.1, bt330.2.1, (⟨bt330.2.2.1, bt330.2.2.2.1, bt330.2.2.2.2.1, bt330.2.2.2.2.2⟩ : S31)⟩ : S33)), t324)) else (none))) else (none)) else (none)) else (some (t321, t324))) = some (r1, r2) := H
  have A6 := Aside0.mk A60
  clear A60
  by_cases c7 : t328 = true
  ·subst c7
   have H1 : (if 0 ≤ a1 then (if a1 < (l0_0.length : Int) then ((impl_Filter.f l0_0 l0_1 ((rd_T33 l0_0 a1).f0) ((rd_T33 l0_0 a1).f1) ((rd_T33 l0_0 a1).f2.f0) ((rd_T33 l0_0 a1).f2.f1) ((rd_T33 l0_0 a1).f2.f2) ((rd_T33 l0_0 a1).f2.f3)).bind fun bt330 => (if a1 < (t321.length : Int) then (some ((t321.set (a1 : Int).toNat (⟨bt330.1, bt330.2.1, (⟨bt330.2.2.1, bt330.2.2.2.1, bt330.2.2.2.2.1, bt330.2.2.2.2.2⟩ : S31)⟩ : S33)), t324)) else (none))) else (none)) else (none)) = some (r1, r2) := by rw [if_pos rfl] at H; exact H
   clear H
   have H := H1
   clear H1
   by_cases c8 : 0 ≤ a1
   ·rw [if_pos c8] at H
    have c8b0 : decide (0 ≤ a1) = true := decide_eq_true c8
    clear c8
    by_cases c9 : a1 < (l0_0.length : Int)
    ·rw [if_pos c9] at H
     have c9b0 : decide (a1 < (l0_0.length : Int)) = true := decide_eq_true c9
     clear c9
     replace H := Option.bind_eq_some_iff.mp H
     obtain ⟨⟨t330, t331, t332, t333, t334, t335⟩, A100, H⟩ := H
     replace H : (if a1 < (t321.length : Int) then (some ((t321.set (a1 : Int).toNat (⟨t330, t331, (⟨t332, t333, t334, t335⟩ : S31)⟩ : S33)), t324)) else (none)) = some (r1, r2) := H
     have A10 := Aside0.mk A100
     clear A100
     by_cases c11 : a1 < (t321.length : Int)
     ·rw [if_pos c11] at H
      have c11b0 : decide (a1 < (t321.length : Int)) = true := decide_eq_true c11
      clear c11
      obtain ⟨y336, hy336⟩ : ∃ y_ : List (S33), y_ = (t321.set (a1 : Int).toNat (⟨t330, t331, (⟨t332, t333, t334, t335⟩ : S31)⟩ : S33)) := ⟨_, rfl⟩
      replace H : (some (y336, t324)) = some (r1, r2) := by first | (rw [hy336]; with_reducible exact H) | (have H2_ := (Option.bind_some _ _).symm.trans H; rw [hy336]; with_reducible exact H2_) | (have H2_ := (Option.bind_some _ _).symm.trans H; with_reducible exact H2_) | with_reducible exact H | (rw [hy336]; exact H) | exact H
      have Ny336 := Aside0.mk hy336
      clear hy336
      simp only [Option.some.injEq, Prod.mk.injEq] at H
      obtain ⟨rfl, rfl⟩ := H
      go_enter Try.func30, Try.ntmps30
      try go_wp2_with (first | ((with_reducible refine gate_dst (N := 2) rfl ?_); refine box_event ?hg (N := 2) ?hd (cs := #[.slice A0_0 l0_0.length c0_0, .slice A0_1 l0_1.length c0_1]) (t := 37) ?hr ?_; (case hd => rfl); (case hg => rfl); (case hr => first | (go_simp; done) | (go_simp; rfl)); intro gb318 hg w13 hbox hb; have n0_ := nbs HB hb; have n1_ := Aside0.mk (hbox); have n2_ := nge HB hg; have n3_ := nge HB hg; clear HB; have HB := n0_; have BK318 := n1_; have GW318 := n2_; have GE318 := n3_; clear n0_ n1_ n2_ n3_; clear hb hbox hg) | ((with_reducible refine gate_dst (N := 4) rfl ?_); refine box_event ?hg (N := 4) ?hd (cs := #[.slice none 0 0, .slice none 0 0]) (t := 37) ?hr ?_; (case hd => rfl); (case hg => rfl); (case hr => first | (go_simp; done) | (go_simp; rfl)); intro gb319 hg w14 hbox hb; have n0_ := nblk BK318 hb; have n1_ := nbs HB hb; have n2_ := Aside0.mk (hbox); have n3_ := nge HB hg; have n4_ := nge HB hg; have n5_ := nlt BK318 hg; have n6_ := ngt BK318 hg; clear BK318 HB; have BK318 := n0_; have HB := n1_; have BK319 := n2_; have GW319 := n3_; have GE319 := n4_; have NB318_319 := n5_; have NB319_318 := n6_; clear n0_ n1_ n2_ n3_ n4_ n5_ n6_; clear hb hbox hg; have hnb15 := NB318_319.out; have hnc15 := NB319_318.out; obtain ⟨hcz16_0, hcz16_1⟩ := c2e BK318; have hfz16_0 := blk_frozen BK318.out 0; have hfz16_1 := blk_frozen BK318.out 1) | ((with_reducible refine gate_callee (f := 24) rfl ?_); refine goesM (some 7) rfl rfl Try.func24 (by kernel_rfl) rfl #[.agg #[.slice A0_0 l0_0.length c0_0, .slice A0_1 l0_1.length c0_1]] rfl ?_; (with_reducible refine (impl_MemoryOk.calls k _ _ l0_0 _ _ l0_1 true _ ?side1 ?side2 ?side3 ?side4 A3.out).mono ?_); (case side1 => repeat (first | exact (Kd.C_below HR0_0.out HB.out) | (with_reducible refine Kd.C_alloc ?_ _) | (with_reducible refine Kd.C_drewN ?_ _) | (with_reducible refine Kd.C_drew ?_))); (case side2 => exact HC0_0.out); (case side3 => repeat (first | exact (Kd.C_below HR0_1.out HB.out) | (with_reducible refine Kd.C_alloc ?_ _) | (with_reducible refine Kd.C_drewN ?_ _) | (with_reducible refine Kd.C_drew ?_))); (case side4 => exact HC0_1.out); rintro e w17 ⟨rfl, hb⟩; refine ⟨_, rfl, ?_⟩; have n0_ := nblk BK318 hb; have n1_ := nblk BK319 hb; have n2_ := nbs HB hb; clear BK318 BK319 HB; have BK318 := n0_; have BK319 := n1_; have HB := n2_; clear n0_ n1_ n2_; (try clear hb); obtain ⟨hcz18_0, hcz18_1⟩ := c2e BK318; have hfz18_0 := blk_frozen BK318.out 0; have hfz18_1 := blk_frozen BK318.out 1) | ((with_reducible refine gate_callee (f := 67) rfl ?_); refine goesM (some 11) rfl rfl Try.func67 (by kernel_rfl) rfl #[.agg #[.slice A0_0 l0_0.length c0_0, .slice A0_1 l0_1.length c0_1]] rfl ?_; (with_reducible refine (impl_cloneMemory.calls _ _ l0_0 _ _ l0_1 t321 t324 _ ?side1 ?side2 ?side3 ?side4 A5.out).mono ?_); (case side1 => repeat (first | exact (Kd.C_below HR0_0.out HB.out) | (with_reducible refine Kd.C_alloc ?_ _) | (with_reducible refine Kd.C_drewN ?_ _) | (with_reducible refine Kd.C_drew ?_))); (case side2 => exact HC0_0.out); (case side3 => repeat (first | exact (Kd.C_below HR0_1.out HB.out) | (with_reducible refine Kd.C_alloc ?_ _) | (with_reducible refine Kd.C_drewN ?_ _) | (with_reducible refine Kd.C_drew ?_))); (case side4 => exact HC0_1.out); rintro e w19 ⟨v322, v325, rfl, ho0, ho1, hb⟩; refine ⟨_, rfl, ?_⟩; have n0_ := Aside0.mk (Kd.R_lower ho0 (below_size (by repeat (first | (with_reducible first | exact HB.out | apply below_alloc | apply pw_below_drewN | apply below_drew1 | refine below_set ?_ GE318.out | refine below_set ?_ GE319.out) | exact HB.out)))); have n1_ := Aside0.mk (Kd.R_lower ho1 (below_size (by repeat (first | (with_reducible first | exact HB.out | apply below_alloc | apply pw_below_drewN | apply below_drew1 | refine below_set ?_ GE318.out | refine below_set ?_ GE319.out) | exact HB.out)))); have n2_ := nblk BK318 hb; have n3_ := nblk BK319 hb; have n4_ := nbs HB hb; clear BK318 BK319 HB; have HO323 := n0_; have HO326 := n1_; have BK318 := n2_; have BK319 := n3_; have HB := n4_; clear n0_ n1_ n2_ n3_ n4_; (try clear hb); (try clear ho0); (try clear ho1)) | ((with_reducible refine gate_dst (N := 5) rfl ?_); refine box_event ?hg (N := 5) ?hd (cs := #[.slice none 0 0, .slice none 0 0]) (t := 37) ?hr ?_; (case hd => rfl); (case hg => rfl); (case hr => first | (go_simp; done) | (go_simp; rfl)); intro gb327 hg w20 hbox hb; have n0_ := nR HO323 hb; have n1_ := nR HO326 hb; have n2_ := nblk BK318 hb; have n3_ := nblk BK319 hb; have n4_ := nbs HB hb; have n5_ := Aside0.mk (hbox); have n6_ := nge HB hg; have n7_ := nge HB hg; have n8_ := nlt BK318 hg; have n9_ := ngt BK318 hg; have n10_ := nlt BK319 hg; have n11_ := ngt BK319 hg; clear HO323 HO326 BK318 BK319 HB; have HO323 := n0_; have HO326 := n1_; have BK318 := n2_; have BK319 := n3_; have HB := n4_; have BK327 := n5_; have GW327 := n6_; have GE327 := n7_; have NB318_327 := n8_; have NB327_318 := n9_; have NB319_327 := n10_; have NB327_319 := n11_; clear n0_ n1_ n2_ n3_ n4_ n5_ n6_ n7_ n8_ n9_ n10_ n11_; clear hb hbox hg; obtain ⟨Ao21, co21, eo21⟩ := Kd.R_slice HO323.out; subst eo21; have hnb22 := NB327_318.out; have hnc22 := NB318_327.out; have hnb23 := NB327_319.out; have hnc23 := NB319_327.out; obtain ⟨hcz24_0, hcz24_1⟩ := c2e BK327; have hfz24_0 := blk_frozen BK327.out 0; have hfz24_1 := blk_frozen BK327.out 1; obtain ⟨Ao25, co25, eo25⟩ := Kd.R_slice HO326.out; subst eo25) | ((with_reducible refine gate_callee (f := 49) rfl ?_); refine goesM (some 13) rfl rfl Try.func49 (by kernel_rfl) rfl #[.int .i64 a1, .int .i64 0, .int .i64 23] rfl ?_; (with_reducible refine (impl_in.calls a1 0 23 true _ A6.out).mono ?_); rintro e w' ⟨rfl, ⟨nd, rfl⟩⟩; refine ⟨_, rfl, ?_⟩))
      have n0_ : Aside0 (Kd.R k33 33 ((w20.setCell ⟨gb327, 0, none⟩ (.slice Ao21 t321.length co21)).setCell ⟨gb327, 1, none⟩ (.slice Ao25 t324.length co25)) w.heap.size (fun _ => True) (.slice Ao21 t321.length co21) t321) := ⟨by (with_reducible repeat (first | apply Kd.R_alloc | apply Kd.R_drewN | apply Kd.R_drew)); exact Kd.R_mono (Kd.R_far (p := ⟨gb327, 1, none⟩) (Kd.R_far (p := ⟨gb327, 0, none⟩) (Kd.R_types HO323.out BK327.out (by decide)) (fun _ hk => hk.2) (.slice Ao21 t321.length co21)) (fun _ hk => hk.2) (.slice Ao25 t324.length co25)) (fun _ hk => trivial)⟩
      have n1_ : Aside0 (Kd.R Kd.bool 4 ((w20.setCell ⟨gb327, 0, none⟩ (.slice Ao21 t321.length co21)).setCell ⟨gb327, 1, none⟩ (.slice Ao25 t324.length co25)) w.heap.size (fun _ => True) (.slice Ao25 t324.length co25) t324) := ⟨by (with_reducible repeat (first | apply Kd.R_alloc | apply Kd.R_drewN | apply Kd.R_drew)); exact Kd.R_mono (Kd.R_far (p := ⟨gb327, 1, none⟩) (Kd.R_far (p := ⟨gb327, 0, none⟩) (Kd.R_types HO326.out BK327.out (by decide)) (fun _ hk => hk.2) (.slice Ao21 t321.length co21)) (fun _ hk => hk.2) (.slice Ao25 t324.length co25)) (fun _ hk => trivial)⟩
      have n2_ : Aside0 (((w20.setCell ⟨gb327, 0, none⟩ (.slice Ao21 t321.length co21)).setCell ⟨gb327, 1, none⟩ (.slice Ao25 t324.length co25)).heap[gb318]? = some (.cells #[.slice A0_0 l0_0.length c0_0, .slice A0_1 l0_1.length c0_1] 37 (0, 0))) := ⟨nb BK318⟩
      have n3_ : Aside0 (((w20.setCell ⟨gb327, 0, none⟩ (.slice Ao21 t321.length co21)).setCell ⟨gb327, 1, none⟩ (.slice Ao25 t324.length co25)).heap[gb319]? = some (.cells #[.slice none 0 0, .slice none 0 0] 37 (0, 0))) := ⟨nb BK319⟩
      have n4_ : Aside0 (((w20.setCell ⟨gb327, 0, none⟩ (.slice Ao21 t321.length co21)).setCell ⟨gb327, 1, none⟩ (.slice Ao25 t324.length co25)).heap[gb327]? = some (.cells #[.slice Ao21 t321.length co21, .slice Ao25 t324.length co25] 37 (0, 0))) := ⟨by (with_reducible repeat (first | refine blk_drewN ?_ _ | refine blk_drew ?_ | refine blk_alloc ?_ _)); refine blk_put (cs := #[.slice Ao21 t321.length co21, .slice none 0 0]) ?_ 1 _ rfl; (with_reducible repeat (first | refine blk_drewN ?_ _ | refine blk_drew ?_ | refine blk_alloc ?_ _)); refine blk_put (cs := #[.slice none 0 0, .slice none 0 0]) ?_ 0 _ rfl; (with_reducible repeat (first | refine blk_drewN ?_ _ | refine blk_drew ?_ | refine blk_alloc ?_ _)); exact BK327.out⟩
      have n5_ : Aside0 (Below w.heap.size w ((w20.setCell ⟨gb327, 0, none⟩ (.slice Ao21 t321.length co21)).setCell ⟨gb327, 1, none⟩ (.slice Ao25 t324.length co25))) := ⟨by repeat (first | (with_reducible first | exact HB.out | apply below_alloc | apply pw_below_drewN | apply below_drew1 | refine below_set ?_ GE318.out | refine below_set ?_ GE319.out | refine below_set ?_ GE327.out) | exact HB.out)⟩
      (try clear HO323)
      (try clear HO326)
      (try clear BK318)
      (try clear BK319)
      (try clear BK327)
      (try clear HB)
      generalize ((w20.setCell ⟨gb327, 0, none⟩ (.slice Ao21 t321.length co21)).setCell ⟨gb327, 1, none⟩ (.slice Ao25 t324.length co25)) = w26 at n0_ n1_ n2_ n3_ n4_ n5_ ⊢
      have HO323 := n0_
      have HO326 := n1_
      have BK318 := n2_
      have BK319 := n3_
      have BK327 := n4_
      have HB := n5_
      clear n0_ n1_ n2_ n3_ n4_ n5_
      (try (rw [drewN_self w26]; generalize hq_ : World.drewN w26 _ = w26; have n0_ : Aside0 (Kd.R k33 33 w26 w.heap.size (fun _ => True) (.slice Ao21 t321.length co21) t321) := ⟨by rw [← hq_]; exact (nRo HO323)⟩; have n1_ : Aside0 (Kd.R Kd.bool 4 w26 w.heap.size (fun _ => True) (.slice Ao25 t324.length co25) t324) := ⟨by rw [← hq_]; exact (nRo HO326)⟩; have n2_ : Aside0 (w26.heap[gb318]? = some (.cells #[.slice A0_0 l0_0.length c0_0, .slice A0_1 l0_1.length c0_1] 37 (0, 0))) := ⟨by rw [← hq_]; exact (nb BK318)⟩; have n3_ : Aside0 (w26.heap[gb319]? = some (.cells #[.slice none 0 0, .slice none 0 0] 37 (0, 0))) := ⟨by rw [← hq_]; exact (nb BK319)⟩; have n4_ : Aside0 (w26.heap[gb327]? = some (.cells #[.slice Ao21 t321.length co21, .slice Ao25 t324.length co25] 37 (0, 0))) := ⟨by rw [← hq_]; exact (nb BK327)⟩; have n5_ : Aside0 (Below w.heap.size w w26) := ⟨by rw [← hq_]; exact (by repeat (first | (with_reducible first | exact HB.out | apply below_alloc | apply pw_below_drewN | apply below_drew1 | refine below_set ?_ GE318.out | refine below_set ?_ GE319.out | refine below_set ?_ GE327.out) | exact HB.out))⟩; clear HO323 HO326 BK318 BK319 BK327 HB hq_; have HO323 := n0_; have HO326 := n1_; have BK318 := n2_; have BK319 := n3_; have BK327 := n4_; have HB := n5_; clear n0_ n1_ n2_ n3_ n4_ n5_))
      have n0_ := Aside0.mk (Kd.R_drew HO323.out)
      have n1_ := Aside0.mk (Kd.R_drew HO326.out)
      have n2_ := Aside0.mk (blk_drew BK318.out)
      have n3_ := Aside0.mk (blk_drew BK319.out)
      have n4_ := Aside0.mk (blk_drew BK327.out)
      have n5_ := Aside0.mk (below_drew1 HB.out)
      clear HO323 HO326 BK318 BK319 BK327 HB
      have HO323 := n0_
      have HO326 := n1_
      have BK318 := n2_
      have BK319 := n3_
      have BK327 := n4_
      have HB := n5_
      clear n0_ n1_ n2_ n3_ n4_ n5_
      have p329 : 0 ≤ (a1 : Int) := of_decide_eq_true (by first | (with_reducible assumption) | assumption)
      have q329 : a1 < (l0_0.length : Int) := of_decide_eq_true (by first | (with_reducible assumption) | assumption)
      obtain ⟨ad329, e329, hx329_0, hx329_1, hx329_2, hx329_3, hx329_4, hx329_5⟩ := at_T33 HR0_0.out a1 p329 q329
      have hw329_5 := hx329_5
      have hw329_4 := hx329_4
      have hw329_3 := hx329_3
      have hw329_2 := hx329_2
      have hw329_1 := hx329_1
      have hw329_0 := hx329_0
      cases e329
      replace hx329_0 := (HB.out.cell (World.block_lt_of_cell? w _ hx329_0)).trans hx329_0
      replace hx329_1 := (HB.out.cell (World.block_lt_of_cell? w _ hx329_1)).trans hx329_1
      replace hx329_2 := (HB.out.cell (World.block_lt_of_cell? w _ hx329_2)).trans hx329_2
      replace hx329_3 := (HB.out.cell (World.block_lt_of_cell? w _ hx329_3)).trans hx329_3
      replace hx329_4 := (HB.out.cell (World.block_lt_of_cell? w _ hx329_4)).trans hx329_4
      replace hx329_5 := (HB.out.cell (World.block_lt_of_cell? w _ hx329_5)).trans hx329_5
      replace p329 := eq_true p329
      replace q329 := eq_true q329
      refine start_ (n := 12) (S := fun w' => w'.cell? ⟨gb327, 0, none⟩ = some (.slice Ao21 t321.length co21) ∧ w'.cell? ⟨gb327, 1, none⟩ = some (.slice Ao25 t324.length co25) ∧ w'.cell? ⟨gb318, 0, none⟩ = some (.slice (some ad329) l0_0.length c0_0) ∧ w'.cell? ⟨gb318, 1, none⟩ = some (.slice A0_1 l0_1.length c0_1) ∧ w'.cell? (ad329.add ((a1).toNat * 6)) = some (.int .i64 ((rd_T33 l0_0 a1).f0)) ∧ w'.cell? ⟨(ad329.add ((a1).toNat * 6)).block, (ad329.add ((a1).toNat * 6)).off + 1, none⟩ = some (.bool ((rd_T33 l0_0 a1).f1)) ∧ w'.cell? ⟨(ad329.add ((a1).toNat * 6)).block, (ad329.add ((a1).toNat * 6)).off + 2, none⟩ = some (.int .i64 ((rd_T33 l0_0 a1).f2.f0)) ∧ w'.cell? ⟨(ad329.add ((a1).toNat * 6)).block, (ad329.add ((a1).toNat * 6)).off + 3, none⟩ = some (.int .i64 ((rd_T33 l0_0 a1).f2.f1)) ∧ w'.cell? ⟨(ad329.add ((a1).toNat * 6)).block, (ad329.add ((a1).toNat * 6)).off + 4, none⟩ = some (.int .i64 ((rd_T33 l0_0 a1).f2.f2)) ∧ w'.cell? ⟨(ad329.add ((a1).toNat * 6)).block, (ad329.add ((a1).toNat * 6)).off + 5, none⟩ = some (.int .i64 ((rd_T33 l0_0 a1).f2.f3))) (ds := [11]) #[false, false, false, false, false, false, false, false, false, false, false, false] (by kernel_rfl) rfl rfl ⟨(blk_cell BK327.out 0).trans rfl, (blk_cell BK327.out 1).trans rfl, (blk_cell BK318.out 0).trans rfl, (blk_cell BK318.out 1).trans rfl, ((HB.out.cell (World.block_lt_of_cell? w _ hw329_0)).trans hw329_0), ((HB.out.cell (World.block_lt_of_cell? w _ hw329_1)).trans hw329_1), ((HB.out.cell (World.block_lt_of_cell? w _ hw329_2)).trans hw329_2), ((HB.out.cell (World.block_lt_of_cell? w _ hw329_3)).trans hw329_3), ((HB.out.cell (World.block_lt_of_cell? w _ hw329_4)).trans hw329_4), ((HB.out.cell (World.block_lt_of_cell? w _ hw329_5)).trans hw329_5)⟩ (fun hHeld => ?_); refine with_tabW impl_Sweep.tab5 impl_Sweep.bits5 (fun HT_ HW_ => ?_)
      generalize w26.drew = w27 at HO323 HO326 BK318 BK319 BK327 HB hx329_0 hx329_1 hx329_2 hx329_3 hx329_4 hx329_5 hHeld ⊢
      refine pure_ (i := 0) (N := some 14) (v := ?_) (a' := ?_) #[true, false, false, false, false, false, false, false, false, false, false, false] rfl rfl (any_of HT_.out (by kernel_rfl)) (fun _ _ _ h => h) (Or.inl ⟨by rfl, ?_⟩) ?_ ?_
      rotate_left
      ·intro w'
       go_simp
       with_reducible rfl
      rotate_left
      ·simp only [Act.put, List.setIfInBounds_toArray, List.set_cons_zero, List.set_cons_succ, i64_w, i32_w]
       rfl
      refine pure_ (i := 2) (N := some 16) (v := ?_) (a' := ?_) #[true, false, true, false, false, false, false, false, false, false, false, false] rfl rfl (any_of HT_.out (by kernel_rfl)) (fun _ _ _ h => h) (Or.inl ⟨by rfl, ?_⟩) ?_ ?_
      rotate_left
      ·intro w'
       go_simp
       with_reducible rfl
      rotate_left
      ·simp only [Act.put, List.setIfInBounds_toArray, List.set_cons_zero, List.set_cons_succ, i64_w, i32_w]
       rfl
      refine pure_ (i := 4) (N := some 18) (v := ?_) (a' := ?_) #[true, false, true, false, true, false, false, false, false, false, false, false] rfl rfl (any_of HT_.out (by kernel_rfl)) (fun _ _ _ h => h) (Or.inl ⟨by rfl, ?_⟩) ?_ ?_
      rotate_left
      ·intro w'
       go_simp
       with_reducible rfl
      rotate_left
      ·simp only [Act.put, List.setIfInBounds_toArray, List.set_cons_zero, List.set_cons_succ, i64_w, i32_w]
       rfl
      refine pure_ (i := 6) (N := some 20) (v := ?_) (a' := ?_) #[true, false, true, false, true, false, true, false, false, false, false, false] rfl rfl (any_of HT_.out (by kernel_rfl)) (fun _ _ _ h => h) (Or.inl ⟨by rfl, ?_⟩) ?_ ?_
      rotate_left
      ·intro w'
       go_simp
       with_reducible rfl
      rotate_left
      ·simp only [Act.put, List.setIfInBounds_toArray, List.set_cons_zero, List.set_cons_succ, i64_w, i32_w]
       rfl
      refine take_ (i := 1) (N := some 15) (v := ?_) (a' := ?_) #[true, true, true, false, true, false, true, false, false, false, false, false] rfl rfl (take_ofW HT_.out HW_.out (by kernel_rfl)) (fun _ _ _ h => h) (Or.inl ⟨by rfl, ?_⟩) hHeld ?_ ?_
      rotate_left
      ·rintro w' ⟨s0, s1, s2, s3, s4, s5, s6, s7, s8, s9⟩
       go_simp
       with_reducible rfl
      rotate_left
      ·simp only [Act.put, List.setIfInBounds_toArray, List.set_cons_zero, List.set_cons_succ, i64_w, i32_w]
       rfl
      refine take_ (i := 3) (N := some 17) (v := ?_) (a' := ?_) #[true, true, true, true, true, false, true, false, false, false, false, false] rfl rfl (take_ofW HT_.out HW_.out (by kernel_rfl)) (fun _ _ _ h => h) (Or.inl ⟨by rfl, ?_⟩) hHeld ?_ ?_
      rotate_left
      ·rintro w' ⟨s0, s1, s2, s3, s4, s5, s6, s7, s8, s9⟩
       go_simp
       with_reducible rfl
      rotate_left
      ·simp only [Act.put, List.setIfInBounds_toArray, List.set_cons_zero, List.set_cons_succ, i64_w, i32_w]
       rfl
      refine take_ (i := 5) (N := some 19) (v := ?_) (a' := ?_) #[true, true, true, true, true, true, true, false, false, false, false, false] rfl rfl (take_ofW HT_.out HW_.out (by kernel_rfl)) (fun _ _ _ h => h) (Or.inl ⟨by rfl, ?_⟩) hHeld ?_ ?_
      rotate_left
      ·rintro w' ⟨s0, s1, s2, s3, s4, s5, s6, s7, s8, s9⟩
       go_simp
       with_reducible rfl
      rotate_left
      ·simp only [Act.put, List.setIfInBounds_toArray, List.set_cons_zero, List.set_cons_succ, i64_w, i32_w]
       rfl
      refine pure_ (i := 7) (N := some 21) (v := ?_) (a' := ?_) #[true, true, true, true, true, true, true, true, false, false, false, false] rfl rfl (any_of HT_.out (by kernel_rfl)) (fun _ _ _ h => h) (Or.inl ⟨by rfl, ?_⟩) ?_ ?_
      rotate_left
      ·intro w'
       go_simp
       with_reducible rfl
      rotate_left
      ·simp only [Act.put, List.setIfInBounds_toArray, List.set_cons_zero, List.set_cons_succ, i64_w, i32_w]
       rfl
      refine take_ (i := 8) (N := some 22) (v := ?_) (a' := ?_) #[true, true, true, true, true, true, true, true, true, false, false, false] rfl rfl (take_ofW HT_.out HW_.out (by kernel_rfl)) (fun _ _ _ h => h) (Or.inl ⟨by rfl, ?_⟩) hHeld ?_ ?_
      rotate_left
      ·rintro w' ⟨s0, s1, s2, s3, s4, s5, s6, s7, s8, s9⟩
       go_simp
       with_reducible rfl
      rotate_left
      ·simp only [Act.put, List.setIfInBounds_toArray, List.set_cons_zero, List.set_cons_succ, i64_w, i32_w]
       rfl
      refine one_ (i := 9) (N := some 23) #[true, true, true, true, true, true, true, true, true, true, false, false] rfl rfl (one_of HT_.out (by kernel_rfl)) (by decide) (fun K hK => ?_)
      refine goesR Try.func16 (by kernel_rfl) rfl #[.agg #[.slice (some ad329) l0_0.length c0_0, .slice A0_1 l0_1.length c0_1], .agg #[.int .i64 ((rd_T33 l0_0 a1).f0), .bool ((rd_T33 l0_0 a1).f1), .int .i64 ((rd_T33 l0_0 a1).f2.f0), .int .i64 ((rd_T33 l0_0 a1).f2.f1), .int .i64 ((rd_T33 l0_0 a1).f2.f2), .int .i64 ((rd_T33 l0_0 a1).f2.f3)]] (by rfl) rfl rfl ?_
      with_reducible refine (impl_Filter.calls _ _ l0_0 _ _ l0_1 ((rd_T33 l0_0 a1).f0) ((rd_T33 l0_0 a1).f1) ((rd_T33 l0_0 a1).f2.f0) ((rd_T33 l0_0 a1).f2.f1) ((rd_T33 l0_0 a1).f2.f2) ((rd_T33 l0_0 a1).f2.f3) t330 t331 t332 t333 t334 t335 _ ?side1 ?side2 ?side3 ?side4 A10.out).mono ?_
      (case side1 => repeat (first | exact (Kd.C_below HR0_0.out HB.out) | (with_reducible refine Kd.C_alloc ?_ _) | (with_reducible refine Kd.C_drewN ?_ _) | (with_reducible refine Kd.C_drew ?_)))
      (case side2 => exact HC0_0.out)
      (case side3 => repeat (first | exact (Kd.C_below HR0_1.out HB.out) | (with_reducible refine Kd.C_alloc ?_ _) | (with_reducible refine Kd.C_drewN ?_ _) | (with_reducible refine Kd.C_drew ?_)))
      (case side4 => exact HC0_1.out)
      rintro e w28 ⟨rfl, hb⟩
      refine ⟨_, rfl, ?_⟩
      have n0_ := nR HO323 hb
      have n1_ := nR HO326 hb
      have n2_ := nblk BK318 hb
      have n3_ := nblk BK319 hb
      have n4_ := nblk BK327 hb
      have n5_ := nbs HB hb
      clear HO323 HO326 BK318 BK319 BK327 HB
      have HO323 := n0_
      have HO326 := n1_
      have BK318 := n2_
      have BK319 := n3_
      have BK327 := n4_
      have HB := n5_
      clear n0_ n1_ n2_ n3_ n4_ n5_
      (try clear hb)
      have p12 : 0 ≤ (a1 : Int) := of_decide_eq_true (by first | (with_reducible assumption) | assumption)
      have q12 : (a1 : Int) < ((t321.length : Int) : Int) := of_decide_eq_true (by first | (with_reducible assumption) | assumption)
      obtain ⟨go12, co12, eo12, gb12, gl12, cl12, HG12⟩ := Kd.R_form HO323.out (by omega)
      (first | cases eo12 | (injection eo12 with ea_ en_ ec_; (first | subst ea_ | (injection ea_ with ea_; subst ea_)); subst ec_; clear en_))
      have GB12 := Aside0.mk gb12
      have GG12 := Aside0.mk HG12
      clear gb12 gl12 HG12
      obtain ⟨ce12, hcl12, hM12, hcc12, hfr12⟩ := Kd.R_elem HO323.out z33 (a1 : Int) p12 q12
      obtain rfl := k33_openM hM12
      have hx12_0 : World.cell? _ ⟨go12, (a1 : Int).toNat * 6, none⟩ = some (.int .i64 ((rd_T33 t321 a1).f0)) := hcc12 0 _ rfl
      have hx12_1 : World.cell? _ ⟨go12, (a1 : Int).toNat * 6 + 1, none⟩ = some (.bool ((rd_T33 t321 a1).f1)) := hcc12 1 _ rfl
      have hx12_2 : World.cell? _ ⟨go12, (a1 : Int).toNat * 6 + 2, none⟩ = some (.int .i64 ((rd_T33 t321 a1).f2.f0)) := hcc12 2 _ rfl
      have hx12_3 : World.cell? _ ⟨go12, (a1 : Int).toNat * 6 + 3, none⟩ = some (.int .i64 ((rd_T33 t321 a1).f2.f1)) := hcc12 3 _ rfl
      have hx12_4 : World.cell? _ ⟨go12, (a1 : Int).toNat * 6 + 4, none⟩ = some (.int .i64 ((rd_T33 t321 a1).f2.f2)) := hcc12 4 _ rfl
      have hx12_5 : World.cell? _ ⟨go12, (a1 : Int).toNat * 6 + 5, none⟩ = some (.int .i64 ((rd_T33 t321 a1).f2.f3)) := hcc12 5 _ rfl
      have hf12_0 : World.frozen? _ ⟨go12, (a1 : Int).toNat * 6, none⟩ = false := hfr12 0
      have hf12_1 : World.frozen? _ ⟨go12, (a1 : Int).toNat * 6 + 1, none⟩ = false := hfr12 1
      have hf12_2 : World.frozen? _ ⟨go12, (a1 : Int).toNat * 6 + 2, none⟩ = false := hfr12 2
      have hf12_3 : World.frozen? _ ⟨go12, (a1 : Int).toNat * 6 + 3, none⟩ = false := hfr12 3
      have hf12_4 : World.frozen? _ ⟨go12, (a1 : Int).toNat * 6 + 4, none⟩ = false := hfr12 4
      have hf12_5 : World.frozen? _ ⟨go12, (a1 : Int).toNat * 6 + 5, none⟩ = false := hfr12 5
      clear hcl12 hcc12 hfr12 hM12
      replace p12 := eq_true p12
      replace q12 := eq_true q12
      obtain ⟨ce29, hcl29, hM29, hcc29, hfr29⟩ := Kd.R_elem HO323.out z33 (a1 : Int) (of_decide_eq_true (by first | (with_reducible assumption) | assumption)) (by have h_ : (a1 : Int) < ((t321.length : Int) : Int) := of_decide_eq_true (by first | (with_reducible assumption) | assumption); first | exact h_ | (have e_ := (Kd.R_reads' HO323.out).1; omega) | simpa using h_)
      obtain rfl := k33_openM hM29
      have HP29 := (Kd.R_seg HO323.out (a1 : Int) (of_decide_eq_true (by first | (with_reducible assumption) | assumption)) (by have h_ : (a1 : Int) < ((t321.length : Int) : Int) := of_decide_eq_true (by first | (with_reducible assumption) | assumption); first | exact h_ | (have e_ := (Kd.R_reads' HO323.out).1; omega) | simpa using h_) (seg := [.int .i64 t330, .bool t331, .int .i64 t332, .int .i64 t333, .int .i64 t334, .int .i64 t335]) (j := 0) hcl29 hcc29 (show 6 ≤ 6 from by decide) (x' := (⟨t330, t331, (⟨t332, t333, t334, t335⟩ : S31)⟩ : S33)) (k33_mkM _ _ _ (⟨t330, t331, (⟨t332, t333, t334, t335⟩ : S31)⟩ : S33) ) (fun _ hk => hk)).1
      rw [← Ny336.out] at HP29
      have HQ29 := Aside0.mk HP29
      clear hcl29 hcc29 hfr29 hM29 HP29
      refine hK.out _ _ ⟨(blk_cell BK327.out 0).trans rfl, (blk_cell BK327.out 1).trans rfl, (blk_cell BK318.out 0).trans rfl, (blk_cell BK318.out 1).trans rfl, ((HB.out.cell (World.block_lt_of_cell? w _ hw329_0)).trans hw329_0), ((HB.out.cell (World.block_lt_of_cell? w _ hw329_1)).trans hw329_1), ((HB.out.cell (World.block_lt_of_cell? w _ hw329_2)).trans hw329_2), ((HB.out.cell (World.block_lt_of_cell? w _ hw329_3)).trans hw329_3), ((HB.out.cell (World.block_lt_of_cell? w _ hw329_4)).trans hw329_4), ((HB.out.cell (World.block_lt_of_cell? w _ hw329_5)).trans hw329_5)⟩ (fun hHeld => ?_)
      clear hK K
      refine norm_ (a' := ?_) ?_ ?_
      rotate_left
      ·show Act.put _ (some 23) _ = _
       simp only [Act.put, List.setIfInBounds_toArray, List.set_cons_zero, List.set_cons_succ, i64_w, i32_w]
       rfl
      refine pure_ (i := 10) (N := some 24) (v := ?_) (a' := ?_) #[true, true, true, true, true, true, true, true, true, true, true, false] rfl rfl (any_of HT_.out (by kernel_rfl)) (fun _ _ _ h => h) (Or.inl ⟨by rfl, ?_⟩) ?_ ?_
      rotate_left
      ·intro w'
       go_simp
       with_reducible rfl
      rotate_left
      ·simp only [Act.put, List.setIfInBounds_toArray, List.set_cons_zero, List.set_cons_succ, i64_w, i32_w]
       rfl
      refine last_ (i := 11) (N := none) #[true, true, true, true, true, true, true, true, true, true, true, true] rfl rfl (one_of HT_.out (by kernel_rfl)) (by decide) (fun K hK => ?_)
      refine skip_ (w1 := ?_) (by rfl) rfl ?_ ?_
      rotate_left
      ·go_simp
       rfl
      refine hK.out _ _ ?_
      clear hK K
      refine done_ (done_of HT_.out (by kernel_rfl)) ?_
      have n0_ : Aside0 (Kd.R k33 33 ((((((w28.setCell ⟨go12, (a1 : Int).toNat * 6, none⟩ (.int .i64 t330)).setCell ⟨go12, (a1 : Int).toNat * 6 + 1, none⟩ (.bool t331)).setCell ⟨go12, (a1 : Int).toNat * 6 + 2, none⟩ (.int .i64 t332)).setCell ⟨go12, (a1 : Int).toNat * 6 + 3, none⟩ (.int .i64 t333)).setCell ⟨go12, (a1 : Int).toNat * 6 + 4, none⟩ (.int .i64 t334)).setCell ⟨go12, (a1 : Int).toNat * 6 + 5, none⟩ (.int .i64 t335)) w.heap.size (fun _ => True) (.slice (some ⟨go12, 0, none⟩) t321.length co21) y336) := ⟨by (with_reducible repeat (first | apply Kd.R_alloc | apply Kd.R_drewN | apply Kd.R_drew)); exact HQ29.out⟩
      have n1_ : Aside0 (Kd.R Kd.bool 4 ((((((w28.setCell ⟨go12, (a1 : Int).toNat * 6, none⟩ (.int .i64 t330)).setCell ⟨go12, (a1 : Int).toNat * 6 + 1, none⟩ (.bool t331)).setCell ⟨go12, (a1 : Int).toNat * 6 + 2, none⟩ (.int .i64 t332)).setCell ⟨go12, (a1 : Int).toNat * 6 + 3, none⟩ (.int .i64 t333)).setCell ⟨go12, (a1 : Int).toNat * 6 + 4, none⟩ (.int .i64 t334)).setCell ⟨go12, (a1 : Int).toNat * 6 + 5, none⟩ (.int .i64 t335)) w.heap.size (fun _ => True) (.slice Ao25 t324.length co25) t324) := ⟨by (with_reducible repeat (first | apply Kd.R_alloc | apply Kd.R_drewN | apply Kd.R_drew)); exact Kd.R_mono (Kd.R_far (p := ⟨go12, (a1 : Int).toNat * 6 + 5, none⟩) (Kd.R_far (p := ⟨go12, (a1 : Int).toNat * 6 + 4, none⟩) (Kd.R_far (p := ⟨go12, (a1 : Int).toNat * 6 + 3, none⟩) (Kd.R_far (p := ⟨go12, (a1 : Int).toNat * 6 + 2, none⟩) (Kd.R_far (p := ⟨go12, (a1 : Int).toNat * 6 + 1, none⟩) (Kd.R_far (p := ⟨go12, (a1 : Int).toNat * 6, none⟩) (Kd.R_types HO326.out GG12.out (by decide)) (fun _ hk => hk.2) (.int .i64 t330)) (fun _ hk => hk.2) (.bool t331)) (fun _ hk => hk.2) (.int .i64 t332)) (fun _ hk => hk.2) (.int .i64 t333)) (fun _ hk => hk.2) (.int .i64 t334)) (fun _ hk => hk.2) (.int .i64 t335)) (fun _ hk => trivial)⟩
      have n2_ : Aside0 (((((((w28.setCell ⟨go12, (a1 : Int).toNat * 6, none⟩ (.int .i64 t330)).setCell ⟨go12, (a1 : Int).toNat * 6 + 1, none⟩ (.bool t331)).setCell ⟨go12, (a1 : Int).toNat * 6 + 2, none⟩ (.int .i64 t332)).setCell ⟨go12, (a1 : Int).toNat * 6 + 3, none⟩ (.int .i64 t333)).setCell ⟨go12, (a1 : Int).toNat * 6 + 4, none⟩ (.int .i64 t334)).setCell ⟨go12, (a1 : Int).toNat * 6 + 5, none⟩ (.int .i64 t335)).heap[gb318]? = some (.cells #[.slice (some ad329) l0_0.length c0_0, .slice A0_1 l0_1.length c0_1] 37 (0, 0))) := ⟨by (with_reducible repeat (first | refine blk_drewN ?_ _ | refine blk_drew ?_ | refine blk_alloc ?_ _)); refine blk_far ?_ (by have h_ := Kd.R_ne HO323.out BK318.out (by decide); intro e_; exact h_ (by rw [e_]; rfl)) _; (with_reducible repeat (first | refine blk_drewN ?_ _ | refine blk_drew ?_ | refine blk_alloc ?_ _)); refine blk_far ?_ (by have h_ := Kd.R_ne HO323.out BK318.out (by decide); intro e_; exact h_ (by rw [e_]; rfl)) _; (with_reducible repeat (first | refine blk_drewN ?_ _ | refine blk_drew ?_ | refine blk_alloc ?_ _)); refine blk_far ?_ (by have h_ := Kd.R_ne HO323.out BK318.out (by decide); intro e_; exact h_ (by rw [e_]; rfl)) _; (with_reducible repeat (first | refine blk_drewN ?_ _ | refine blk_drew ?_ | refine blk_alloc ?_ _)); refine blk_far ?_ (by have h_ := Kd.R_ne HO323.out BK318.out (by decide); intro e_; exact h_ (by rw [e_]; rfl)) _; (with_reducible repeat (first | refine blk_drewN ?_ _ | refine blk_drew ?_ | refine blk_alloc ?_ _)); refine blk_far ?_ (by have h_ := Kd.R_ne HO323.out BK318.out (by decide); intro e_; exact h_ (by rw [e_]; rfl)) _; (with_reducible repeat (first | refine blk_drewN ?_ _ | refine blk_drew ?_ | refine blk_alloc ?_ _)); refine blk_far ?_ (by have h_ := Kd.R_ne HO323.out BK318.out (by decide); intro e_; exact h_ (by rw [e_]; rfl)) _; (with_reducible repeat (first | refine blk_drewN ?_ _ | refine blk_drew ?_ | refine blk_alloc ?_ _)); exact BK318.out⟩
      have n3_ : Aside0 (((((((w28.setCell ⟨go12, (a1 : Int).toNat * 6, none⟩ (.int .i64 t330)).setCell ⟨go12, (a1 : Int).toNat * 6 + 1, none⟩ (.bool t331)).setCell ⟨go12, (a1 : Int).toNat * 6 + 2, none⟩ (.int .i64 t332)).setCell ⟨go12, (a1 : Int).toNat * 6 + 3, none⟩ (.int .i64 t333)).setCell ⟨go12, (a1 : Int).toNat * 6 + 4, none⟩ (.int .i64 t334)).setCell ⟨go12, (a1 : Int).toNat * 6 + 5, none⟩ (.int .i64 t335)).heap[gb319]? = some (.cells #[.slice none 0 0, .slice none 0 0] 37 (0, 0))) := ⟨by (with_reducible repeat (first | refine blk_drewN ?_ _ | refine blk_drew ?_ | refine blk_alloc ?_ _)); refine blk_far ?_ (by have h_ := Kd.R_ne HO323.out BK319.out (by decide); intro e_; exact h_ (by rw [e_]; rfl)) _; (with_reducible repeat (first | refine blk_drewN ?_ _ | refine blk_drew ?_ | refine blk_alloc ?_ _)); refine blk_far ?_ (by have h_ := Kd.R_ne HO323.out BK319.out (by decide); intro e_; exact h_ (by rw [e_]; rfl)) _; (with_reducible repeat (first | refine blk_drewN ?_ _ | refine blk_drew ?_ | refine blk_alloc ?_ _)); refine blk_far ?_ (by have h_ := Kd.R_ne HO323.out BK319.out (by decide); intro e_; exact h_ (by rw [e_]; rfl)) _; (with_reducible repeat (first | refine blk_drewN ?_ _ | refine blk_drew ?_ | refine blk_alloc ?_ _)); refine blk_far ?_ (by have h_ := Kd.R_ne HO323.out BK319.out (by decide); intro e_; exact h_ (by rw [e_]; rfl)) _; (with_reducible repeat (first | refine blk_drewN ?_ _ | refine blk_drew ?_ | refine blk_alloc ?_ _)); refine blk_far ?_ (by have h_ := Kd.R_ne HO323.out BK319.out (by decide); intro e_; exact h_ (by rw [e_]; rfl)) _; (with_reducible repeat (first | refine blk_drewN ?_ _ | refine blk_drew ?_ | refine blk_alloc ?_ _)); refine blk_far ?_ (by have h_ := Kd.R_ne HO323.out BK319.out (by decide); intro e_; exact h_ (by rw [e_]; rfl)) _; (with_reducible repeat (first | refine blk_drewN ?_ _ | refine blk_drew ?_ | refine blk_alloc ?_ _)); exact BK319.out⟩
      have n4_ : Aside0 (((((((w28.setCell ⟨go12, (a1 : Int).toNat * 6, none⟩ (.int .i64 t330)).setCell ⟨go12, (a1 : Int).toNat * 6 + 1, none⟩ (.bool t331)).setCell ⟨go12, (a1 : Int).toNat * 6 + 2, none⟩ (.int .i64 t332)).setCell ⟨go12, (a1 : Int).toNat * 6 + 3, none⟩ (.int .i64 t333)).setCell ⟨go12, (a1 : Int).toNat * 6 + 4, none⟩ (.int .i64 t334)).setCell ⟨go12, (a1 : Int).toNat * 6 + 5, none⟩ (.int .i64 t335)).heap[gb327]? = some (.cells #[.slice (some ⟨go12, 0, none⟩) t321.length co21, .slice Ao25 t324.length co25] 37 (0, 0))) := ⟨by (with_reducible repeat (first | refine blk_drewN ?_ _ | refine blk_drew ?_ | refine blk_alloc ?_ _)); refine blk_far ?_ (by have h_ := Kd.R_ne HO323.out BK327.out (by decide); intro e_; exact h_ (by rw [e_]; rfl)) _; (with_reducible repeat (first | refine blk_drewN ?_ _ | refine blk_drew ?_ | refine blk_alloc ?_ _)); refine blk_far ?_ (by have h_ := Kd.R_ne HO323.out BK327.out (by decide); intro e_; exact h_ (by rw [e_]; rfl)) _; (with_reducible repeat (first | refine blk_drewN ?_ _ | refine blk_drew ?_ | refine blk_alloc ?_ _)); refine blk_far ?_ (by have h_ := Kd.R_ne HO323.out BK327.out (by decide); intro e_; exact h_ (by rw [e_]; rfl)) _; (with_reducible repeat (first | refine blk_drewN ?_ _ | refine blk_drew ?_ | refine blk_alloc ?_ _)); refine blk_far ?_ (by have h_ := Kd.R_ne HO323.out BK327.out (by decide); intro e_; exact h_ (by rw [e_]; rfl)) _; (with_reducible repeat (first | refine blk_drewN ?_ _ | refine blk_drew ?_ | refine blk_alloc ?_ _)); refine blk_far ?_ (by have h_ := Kd.R_ne HO323.out BK327.out (by decide); intro e_; exact h_ (by rw [e_]; rfl)) _; (with_reducible repeat (first | refine blk_drewN ?_ _ | refine blk_drew ?_ | refine blk_alloc ?_ _)); refine blk_far ?_ (by have h_ := Kd.R_ne HO323.out BK327.out (by decide); intro e_; exact h_ (by rw [e_]; rfl)) _; (with_reducible repeat (first | refine blk_drewN ?_ _ | refine blk_drew ?_ | refine blk_alloc ?_ _)); exact BK327.out⟩
      have n5_ : Aside0 (Below w.heap.size w ((((((w28.setCell ⟨go12, (a1 : Int).toNat * 6, none⟩ (.int .i64 t330)).setCell ⟨go12, (a1 : Int).toNat * 6 + 1, none⟩ (.bool t331)).setCell ⟨go12, (a1 : Int).toNat * 6 + 2, none⟩ (.int .i64 t332)).setCell ⟨go12, (a1 : Int).toNat * 6 + 3, none⟩ (.int .i64 t333)).setCell ⟨go12, (a1 : Int).toNat * 6 + 4, none⟩ (.int .i64 t334)).setCell ⟨go12, (a1 : Int).toNat * 6 + 5, none⟩ (.int .i64 t335))) := ⟨by repeat (first | (with_reducible first | exact HB.out | apply below_alloc | apply pw_below_drewN | apply below_drew1 | refine below_set ?_ GB12.out | refine below_set ?_ GB12.out | refine below_set ?_ GB12.out | refine below_set ?_ GB12.out | refine below_set ?_ GB12.out | refine below_set ?_ GB12.out | refine below_set ?_ GE318.out | refine below_set ?_ GE319.out | refine below_set ?_ GE327.out) | exact HB.out)⟩
      (try clear HO323)
      (try clear HO326)
      (try clear BK318)
      (try clear BK319)
      (try clear BK327)
      (try clear HB)
      generalize ((((((w28.setCell ⟨go12, (a1 : Int).toNat * 6, none⟩ (.int .i64 t330)).setCell ⟨go12, (a1 : Int).toNat * 6 + 1, none⟩ (.bool t331)).setCell ⟨go12, (a1 : Int).toNat * 6 + 2, none⟩ (.int .i64 t332)).setCell ⟨go12, (a1 : Int).toNat * 6 + 3, none⟩ (.int .i64 t333)).setCell ⟨go12, (a1 : Int).toNat * 6 + 4, none⟩ (.int .i64 t334)).setCell ⟨go12, (a1 : Int).toNat * 6 + 5, none⟩ (.int .i64 t335)) = w30 at n0_ n1_ n2_ n3_ n4_ n5_ ⊢
      have HO323 := n0_
      have HO326 := n1_
      have BK318 := n2_
      have BK319 := n3_
      have BK327 := n4_
      have HB := n5_
      clear n0_ n1_ n2_ n3_ n4_ n5_
      obtain ⟨hcz31_0, hcz31_1⟩ := c2e BK327
      have hfz31_0 := blk_frozen BK327.out 0
      have hfz31_1 := blk_frozen BK327.out 1
      obtain ⟨hcz32_0, hcz32_1⟩ := c2e BK319
      have hfz32_0 := blk_frozen BK319.out 0
      have hfz32_1 := blk_frozen BK319.out 1
      try go_wp2
      refine bodyPost_ret (results_cell_row rfl _ _ gb319 37 #[.slice (some ⟨go12, 0, none⟩) t321.length co21, .slice Ao25 t324.length co25] (0, 0) _ rfl (by (with_reducible repeat (first | refine blk_drewN ?_ _ | refine blk_drew ?_ | refine blk_alloc ?_ _)); refine blk_put (cs := #[.slice (some ⟨go12, 0, none⟩) t321.length co21, .slice none 0 0]) ?_ 1 _ rfl; (with_reducible repeat (first | refine blk_drewN ?_ _ | refine blk_drew ?_ | refine blk_alloc ?_ _)); refine blk_put (cs := #[.slice none 0 0, .slice none 0 0]) ?_ 0 _ rfl; (with_reducible repeat (first | refine blk_drewN ?_ _ | refine blk_drew ?_ | refine blk_alloc ?_ _)); exact BK319.out) Try.underlying37 rfl (by kernel_rfl)) rfl ?_
      exact ⟨_, _, by first | rfl | (simp [errW_none, errW_some] <;> rfl) | (simp [*, errW_none, errW_some] <;> rfl), by (with_reducible repeat (first | apply Kd.R_alloc | apply Kd.R_drewN | apply Kd.R_drew)); exact Kd.R_mono (Kd.R_far (p := ⟨gb319, 1, none⟩) (Kd.R_far (p := ⟨gb319, 0, none⟩) (Kd.R_types HO323.out BK319.out (by decide)) (fun _ hk => hk.2) (.slice (some ⟨go12, 0, none⟩) t321.length co21)) (fun _ hk => hk.2) (.slice Ao25 t324.length co25)) (fun _ hk => trivial), by (with_reducible repeat (first | apply Kd.R_alloc | apply Kd.R_drewN | apply Kd.R_drew)); exact Kd.R_mono (Kd.R_far (p := ⟨gb319, 1, none⟩) (Kd.R_far (p := ⟨gb319, 0, none⟩) (Kd.R_types HO326.out BK319.out (by decide)) (fun _ hk => hk.2) (.slice (some ⟨go12, 0, none⟩) t321.length co21)) (fun _ hk => hk.2) (.slice Ao25 t324.length co25)) (fun _ hk => trivial), by repeat (first | (with_reducible first | exact HB.out | apply below_alloc | apply pw_below_drewN | apply below_drew1 | refine below_set ?_ GE318.out | refine below_set ?_ GE319.out | refine below_set ?_ GE327.out) | exact HB.out)⟩
     ·rw [if_neg c11] at H
      exact absurd H (by simp)
    ·rw [if_neg c9] at H
     exact absurd H (by simp)
   ·rw [if_neg c8] at H
    exact absurd H (by simp)
  ·replace c7 := Bool.eq_false_iff.mpr c7
   subst c7
   have H1 : (some (t321, t324)) = some (r1, r2) := by rw [if_neg (show ¬ (false = true) by decide)] at H; exact H
   clear H
   have H := H1
   clear H1
   simp only [Option.some.injEq, Prod.mk.injEq] at H
   obtain ⟨rfl, rfl⟩ := H
   go_enter Try.func30, Try.ntmps30
   go_wp2_with (first | ((with_reducible refine gate_dst (N := 2) rfl ?_); refine box_event ?hg (N := 2) ?hd (cs := #[.slice A0_0 l0_0.length c0_0, .slice A0_1 l0_1.length c0_1]) (t := 37) ?hr ?_; (case hd => rfl); (case hg => rfl); (case hr => first | (go_simp; done) | (go_simp; rfl)); intro gb318 hg w33 hbox hb; have n0_ := nbs HB hb; have n1_ := Aside0.mk (hbox); have n2_ := nge HB hg; have n3_ := nge HB hg; clear HB; have HB := n0_; have BK318 := n1_; have GW318 := n2_; have GE318 := n3_; clear n0_ n1_ n2_ n3_; clear hb hbox hg) | ((with_reducible refine gate_dst (N := 4) rfl ?_); refine box_event ?hg (N := 4) ?hd (cs := #[.slice none 0 0, .slice none 0 0]) (t := 37) ?hr ?_; (case hd => rfl); (case hg => rfl); (case hr => first | (go_simp; done) | (go_simp; rfl)); intro gb319 hg w34 hbox hb; have n0_ := nblk BK318 hb; have n1_ := nbs HB hb; have n2_ := Aside0.mk (hbox); have n3_ := nge HB hg; have n4_ := nge HB hg; have n5_ := nlt BK318 hg; have n6_ := ngt BK318 hg; clear BK318 HB; have BK318 := n0_; have HB := n1_; have BK319 := n2_; have GW319 := n3_; have GE319 := n4_; have NB318_319 := n5_; have NB319_318 := n6_; clear n0_ n1_ n2_ n3_ n4_ n5_ n6_; clear hb hbox hg; have hnb35 := NB318_319.out; have hnc35 := NB319_318.out; obtain ⟨hcz36_0, hcz36_1⟩ := c2e BK318; have hfz36_0 := blk_frozen BK318.out 0; have hfz36_1 := blk_frozen BK318.out 1) | ((with_reducible refine gate_callee (f := 24) rfl ?_); refine goesM (some 7) rfl rfl Try.func24 (by kernel_rfl) rfl #[.agg #[.slice A0_0 l0_0.length c0_0, .slice A0_1 l0_1.length c0_1]] rfl ?_; (with_reducible refine (impl_MemoryOk.calls k _ _ l0_0 _ _ l0_1 true _ ?side1 ?side2 ?side3 ?side4 A3.out).mono ?_); (case side1 => repeat (first | exact (Kd.C_below HR0_0.out HB.out) | (with_reducible refine Kd.C_alloc ?_ _) | (with_reducible refine Kd.C_drewN ?_ _) | (with_reducible refine Kd.C_drew ?_))); (case side2 => exact HC0_0.out); (case side3 => repeat (first | exact (Kd.C_below HR0_1.out HB.out) | (with_reducible refine Kd.C_alloc ?_ _) | (with_reducible refine Kd.C_drewN ?_ _) | (with_reducible refine Kd.C_drew ?_))); (case side4 => exact HC0_1.out); rintro e w37 ⟨rfl, hb⟩; refine ⟨_, rfl, ?_⟩; have n0_ := nblk BK318 hb; have n1_ := nblk BK319 hb; have n2_ := nbs HB hb; clear BK318 BK319 HB; have BK318 := n0_; have BK319 := n1_; have HB := n2_; clear n0_ n1_ n2_; (try clear hb); obtain ⟨hcz38_0, hcz38_1⟩ := c2e BK318; have hfz38_0 := blk_frozen BK318.out 0; have hfz38_1 := blk_frozen BK318.out 1) | ((with_reducible refine gate_callee (f := 67) rfl ?_); refine goesM (some 11) rfl rfl Try.func67 (by kernel_rfl) rfl #[.agg #[.slice A0_0 l0_0.length c0_0, .slice A0_1 l0_1.length c0_1]] rfl ?_; (with_reducible refine (impl_cloneMemory.calls _ _ l0_0 _ _ l0_1 t321 t324 _ ?side1 ?side2 ?side3 ?side4 A5.out).mono ?_); (case side1 => repeat (first | exact (Kd.C_below HR0_0.out HB.out) | (with_reducible refine Kd.C_alloc ?_ _) | (with_reducible refine Kd.C_drewN ?_ _) | (with_reducible refine Kd.C_drew ?_))); (case side2 => exact HC0_0.out); (case side3 => repeat (first | exact (Kd.C_below HR0_1.out HB.out) | (with_reducible refine Kd.C_alloc ?_ _) | (with_reducible refine Kd.C_drewN ?_ _) | (with_reducible refine Kd.C_drew ?_))); (case side4 => exact HC0_1.out); rintro e w39 ⟨v322, v325, rfl, ho0, ho1, hb⟩; refine ⟨_, rfl, ?_⟩; have n0_ := Aside0.mk (Kd.R_lower ho0 (below_size (by repeat (first | (with_reducible first | exact HB.out | apply below_alloc | apply pw_below_drewN | apply below_drew1 | refine below_set ?_ GE318.out | refine below_set ?_ GE319.out) | exact HB.out)))); have n1_ := Aside0.mk (Kd.R_lower ho1 (below_size (by repeat (first | (with_reducible first | exact HB.out | apply below_alloc | apply pw_below_drewN | apply below_drew1 | refine below_set ?_ GE318.out | refine below_set ?_ GE319.out) | exact HB.out)))); have n2_ := nblk BK318 hb; have n3_ := nblk BK319 hb; have n4_ := nbs HB hb; clear BK318 BK319 HB; have HO323 := n0_; have HO326 := n1_; have BK318 := n2_; have BK319 := n3_; have HB := n4_; clear n0_ n1_ n2_ n3_ n4_; (try clear hb); (try clear ho0); (try clear ho1)) | ((with_reducible refine gate_dst (N := 5) rfl ?_); refine box_event ?hg (N := 5) ?hd (cs := #[.slice none 0 0, .slice none 0 0]) (t := 37) ?hr ?_; (case hd => rfl); (case hg => rfl); (case hr => first | (go_simp; done) | (go_simp; rfl)); intro gb327 hg w40 hbox hb; have n0_ := nR HO323 hb; have n1_ := nR HO326 hb; have n2_ := nblk BK318 hb; have n3_ := nblk BK319 hb; have n4_ := nbs HB hb; have n5_ := Aside0.mk (hbox); have n6_ := nge HB hg; have n7_ := nge HB hg; have n8_ := nlt BK318 hg; have n9_ := ngt BK318 hg; have n10_ := nlt BK319 hg; have n11_ := ngt BK319 hg; clear HO323 HO326 BK318 BK319 HB; have HO323 := n0_; have HO326 := n1_; have BK318 := n2_; have BK319 := n3_; have HB := n4_; have BK327 := n5_; have GW327 := n6_; have GE327 := n7_; have NB318_327 := n8_; have NB327_318 := n9_; have NB319_327 := n10_; have NB327_319 := n11_; clear n0_ n1_ n2_ n3_ n4_ n5_ n6_ n7_ n8_ n9_ n10_ n11_; clear hb hbox hg; obtain ⟨Ao41, co41, eo41⟩ := Kd.R_slice HO323.out; subst eo41; have hnb42 := NB327_318.out; have hnc42 := NB318_327.out; have hnb43 := NB327_319.out; have hnc43 := NB319_327.out; obtain ⟨hcz44_0, hcz44_1⟩ := c2e BK327; have hfz44_0 := blk_frozen BK327.out 0; have hfz44_1 := blk_frozen BK327.out 1; obtain ⟨Ao45, co45, eo45⟩ := Kd.R_slice HO326.out; subst eo45) | ((with_reducible refine gate_callee (f := 49) rfl ?_); refine goesM (some 13) rfl rfl Try.func49 (by kernel_rfl) rfl #[.int .i64 a1, .int .i64 0, .int .i64 23] rfl ?_; (with_reducible refine (impl_in.calls a1 0 23 false _ A6.out).mono ?_); rintro e w' ⟨rfl, ⟨nd, rfl⟩⟩; refine ⟨_, rfl, ?_⟩; obtain ⟨hcz46_0, hcz46_1⟩ := c2e BK319; have hfz46_0 := blk_frozen BK319.out 0; have hfz46_1 := blk_frozen BK319.out 1))
   refine bodyPost_ret (results_cell_row rfl _ _ gb319 37 #[.slice Ao41 t321.length co41, .slice Ao45 t324.length co45] (0, 0) _ rfl (by (with_reducible repeat (first | refine blk_drewN ?_ _ | refine blk_drew ?_ | refine blk_alloc ?_ _)); refine blk_put (cs := #[.slice Ao41 t321.length co41, .slice none 0 0]) ?_ 1 _ rfl; (with_reducible repeat (first | refine blk_drewN ?_ _ | refine blk_drew ?_ | refine blk_alloc ?_ _)); refine blk_put (cs := #[.slice none 0 0, .slice none 0 0]) ?_ 0 _ rfl; (with_reducible repeat (first | refine blk_drewN ?_ _ | refine blk_drew ?_ | refine blk_alloc ?_ _)); refine blk_far ?_ NB319_327.out _; (with_reducible repeat (first | refine blk_drewN ?_ _ | refine blk_drew ?_ | refine blk_alloc ?_ _)); refine blk_far ?_ NB319_327.out _; (with_reducible repeat (first | refine blk_drewN ?_ _ | refine blk_drew ?_ | refine blk_alloc ?_ _)); exact BK319.out) Try.underlying37 rfl (by kernel_rfl)) rfl ?_
   exact ⟨_, _, by first | rfl | (simp [errW_none, errW_some] <;> rfl) | (simp [*, errW_none, errW_some] <;> rfl), by (with_reducible repeat (first | apply Kd.R_alloc | apply Kd.R_drewN | apply Kd.R_drew)); exact Kd.R_mono (Kd.R_far (p := ⟨gb319, 1, none⟩) (Kd.R_far (p := ⟨gb319, 0, none⟩) (Kd.R_far (p := ⟨gb327, 1, none⟩) (Kd.R_far (p := ⟨gb327, 0, none⟩) (Kd.R_types (Kd.R_types HO323.out BK327.out (by decide)) BK319.out (by decide)) (fun _ hk => hk.1.2) (.slice Ao41 t321.length co41)) (fun _ hk => hk.1.2) (.slice Ao45 t324.length co45)) (fun _ hk => hk.2) (.slice Ao41 t321.length co41)) (fun _ hk => hk.2) (.slice Ao45 t324.length co45)) (fun _ hk => trivial), by (with_reducible repeat (first | apply Kd.R_alloc | apply Kd.R_drewN | apply Kd.R_drew)); exact Kd.R_mono (Kd.R_far (p := ⟨gb319, 1, none⟩) (Kd.R_far (p := ⟨gb319, 0, none⟩) (Kd.R_far (p := ⟨gb327, 1, none⟩) (Kd.R_far (p := ⟨gb327, 0, none⟩) (Kd.R_types (Kd.R_types HO326.out BK327.out (by decide)) BK319.out (by decide)) (fun _ hk => hk.1.2) (.slice Ao41 t321.length co41)) (fun _ hk => hk.1.2) (.slice Ao45 t324.length co45)) (fun _ hk => hk.2) (.slice Ao41 t321.length co41)) (fun _ hk => hk.2) (.slice Ao45 t324.length co45)) (fun _ hk => trivial), by repeat (first | (with_reducible first | exact HB.out | apply below_alloc | apply pw_below_drewN | apply below_drew1 | refine below_set ?_ GE318.out | refine below_set ?_ GE319.out | refine below_set ?_ GE327.out) | exact HB.out)⟩
 ·replace c4 := Bool.eq_false_iff.mpr c4
  subst c4
  have H1 : (some (([] : List (S33)), ([] : List Bool))) = some (r1, r2) := by rw [if_neg (show ¬ (false = true) by decide)] at H; exact H
  clear H
  have H := H1
  clear H1
  simp only [Option.some.injEq, Prod.mk.injEq] at H
  obtain ⟨rfl, rfl⟩ := H
  go_enter Try.func30, Try.ntmps30
  go_wp2_with (first | ((with_reducible refine gate_dst (N := 2) rfl ?_); refine box_event ?hg (N := 2) ?hd (cs := #[.slice A0_0 l0_0.length c0_0, .slice A0_1 l0_1.length c0_1]) (t := 37) ?hr ?_; (case hd => rfl); (case hg => rfl); (case hr => first | (go_simp; done) | (go_simp; rfl)); intro gb318 hg w47 hbox hb; have n0_ := nbs HB hb; have n1_ := Aside0.mk (hbox); have n2_ := nge HB hg; have n3_ := nge HB hg; clear HB; have HB := n0_; have BK318 := n1_; have GW318 := n2_; have GE318 := n3_; clear n0_ n1_ n2_ n3_; clear hb hbox hg) | ((with_reducible refine gate_dst (N := 4) rfl ?_); refine box_event ?hg (N := 4) ?hd (cs := #[.slice none 0 0, .slice none 0 0]) (t := 37) ?hr ?_; (case hd => rfl); (case hg => rfl); (case hr => first | (go_simp; done) | (go_simp; rfl)); intro gb319 hg w48 hbox hb; have n0_ := nblk BK318 hb; have n1_ := nbs HB hb; have n2_ := Aside0.mk (hbox); have n3_ := nge HB hg; have n4_ := nge HB hg; have n5_ := nlt BK318 hg; have n6_ := ngt BK318 hg; clear BK318 HB; have BK318 := n0_; have HB := n1_; have BK319 := n2_; have GW319 := n3_; have GE319 := n4_; have NB318_319 := n5_; have NB319_318 := n6_; clear n0_ n1_ n2_ n3_ n4_ n5_ n6_; clear hb hbox hg; have hnb49 := NB318_319.out; have hnc49 := NB319_318.out; obtain ⟨hcz50_0, hcz50_1⟩ := c2e BK318; have hfz50_0 := blk_frozen BK318.out 0; have hfz50_1 := blk_frozen BK318.out 1) | ((with_reducible refine gate_callee (f := 24) rfl ?_); refine goesM (some 7) rfl rfl Try.func24 (by kernel_rfl) rfl #[.agg #[.slice A0_0 l0_0.length c0_0, .slice A0_1 l0_1.length c0_1]] rfl ?_; (with_reducible refine (impl_MemoryOk.calls k _ _ l0_0 _ _ l0_1 false _ ?side1 ?side2 ?side3 ?side4 A3.out).mono ?_); (case side1 => repeat (first | exact (Kd.C_below HR0_0.out HB.out) | (with_reducible refine Kd.C_alloc ?_ _) | (with_reducible refine Kd.C_drewN ?_ _) | (with_reducible refine Kd.C_drew ?_))); (case side2 => exact HC0_0.out); (case side3 => repeat (first | exact (Kd.C_below HR0_1.out HB.out) | (with_reducible refine Kd.C_alloc ?_ _) | (with_reducible refine Kd.C_drewN ?_ _) | (with_reducible refine Kd.C_drew ?_))); (case side4 => exact HC0_1.out); rintro e w51 ⟨rfl, hb⟩; refine ⟨_, rfl, ?_⟩; have n0_ := nblk BK318 hb; have n1_ := nblk BK319 hb; have n2_ := nbs HB hb; clear BK318 BK319 HB; have BK318 := n0_; have BK319 := n1_; have HB := n2_; clear n0_ n1_ n2_; (try clear hb); obtain ⟨hcz52_0, hcz52_1⟩ := c2e BK319; have hfz52_0 := blk_frozen BK319.out 0; have hfz52_1 := blk_frozen BK319.out 1))
  refine bodyPost_ret (results_cell_row rfl _ _ gb319 37 #[.slice none 0 0, .slice none 0 0] (0, 0) _ rfl (by (with_reducible repeat (first | refine blk_drewN ?_ _ | refine blk_drew ?_ | refine blk_alloc ?_ _)); refine blk_put (cs := #[.slice none 0 0, .slice none 0 0]) ?_ 1 _ rfl; (with_reducible repeat (first | refine blk_drewN ?_ _ | refine blk_drew ?_ | refine blk_alloc ?_ _)); refine blk_put (cs := #[.slice none 0 0, .slice none 0 0]) ?_ 0 _ rfl; (with_reducible repeat (first | refine blk_drewN ?_ _ | refine blk_drew ?_ | refine blk_alloc ?_ _)); exact BK319.out) Try.underlying37 rfl (by kernel_rfl)) rfl ?_
  exact ⟨_, _, by first | rfl | (simp [errW_none, errW_some] <;> rfl) | (simp [*, errW_none, errW_some] <;> rfl), by first | exact Kd.R_nil _ _ _ _ _ | exact Kd.N_nil _ _ _ _ _ | exact Kd.V_nil _ _ _ _ _ | exact Kd.Q_nil _ _ _ _ _ | exact Kd.S_nil _ _ _ _ _, by first | exact Kd.R_nil _ _ _ _ _ | exact Kd.N_nil _ _ _ _ _ | exact Kd.V_nil _ _ _ _ _ | exact Kd.Q_nil _ _ _ _ _ | exact Kd.S_nil _ _ _ _ _, by repeat (first | (with_reducible first | exact HB.out | apply below_alloc | apply pw_below_drewN | apply below_drew1 | refine below_set ?_ GE318.out | refine below_set ?_ GE319.out) | exact HB.out)⟩

end Go.Proofs.Ytlblngbhffpfoaa.PFnExactSweep
