-- Written by a program of this session (wip/patch.py turns a copy of the kit's print): the functions that the law reaches, and their walks.
import Derived.Test.YtednioabjiabiaaPFnFilterx0
import Derived.Test.YtednioabjiabiaaPFnFilterx1
import Derived.Test.YtednioabjiabiaaPFnFilterx3
import Derived.Test.YtednioabjiabiaaPFnFilterx4
import Derived.Test.YtednioabjiabiaaPFnFilterx8
import Derived.Test.YtednioabjiabiaaPFnFilterx9
import Derived.Test.YtednioabjiabiaaCFnFilter
namespace Go.Proofs.Ytednioabjiabiaa.PFnFilter
open Go.RowKit Go.Proofs.YtednioabjiabiaaW.PrintWords Go.Proofs.YtednioabjiabiaaW.PrintLast Go.Proofs.YtednioabjiabiaaW.PrintMore Go.Proofs.YtednioabjiabiaaW.Mine
attribute [local go_sem] max2_int min2_int max_two min_two max_three min_three max_four min_four   -- for this text's walks alone
set_option linter.unusedVariables false
set_option linter.unusedSimpArgs false

attribute [local go_sem high] eqA34
/-! ### impl_cloneMemory: function 26 -/
def impl_cloneMemory.f (l0_0 : List (S36)) (l0_1 : List Bool) : Option ((List (S36)) × List Bool) := (Clone_Word.f l0_0).bind fun bO => ((Clone_bool.f l0_1).bind fun bK => (some (bO, bK)))
def impl_cloneMemory.T1 : Bool × List (List Nat × List Nat) := (true, [([], []), ([0], [0]), ([1], [1]), ([], []), ([3], [3]), ([4, 2], [4]), ([2, 5], [2, 5]), ([6, 5, 0, 1, 2, 3, 4, 5, 6], [6])])
def impl_cloneMemory.B1 : List Nat := [0, 1, 3, 0, 8, 31, 63, 127]
theorem impl_cloneMemory.tab1 : rtab .any (opsOf Try.f26 1) = impl_cloneMemory.T1 := by kernel_rfl
theorem impl_cloneMemory.bits1 : waitsOk impl_cloneMemory.T1.2 impl_cloneMemory.B1 = true := by kernel_rfl
set_option maxHeartbeats 8000000 in
set_option maxRecDepth 100000 in
theorem impl_cloneMemory.calls (A0_0 : Option Addr) (c0_0 : Nat) (l0_0 : List (S36)) (A0_1 : Option Addr) (c0_1 : Nat) (l0_1 : List Bool) (r1 : List (S36)) (r2 : List Bool) (w : World) (hr0_0 : Kd.C k36 w A0_0 l0_0.length l0_0) (hc0_0 : l0_0.length ≤ c0_0) (hr0_1 : Kd.C Kd.bool w A0_1 l0_1.length l0_1) (hc0_1 : l0_1.length ≤ c0_1) (h : impl_cloneMemory.f l0_0 l0_1 = some (r1, r2)) :
  Calls Try.prog 26 #[.agg #[.slice A0_0 l0_0.length c0_0, .slice A0_1 l0_1.length c0_1]] w fun e w' => ∃ v0_ v1_ : Value, e = .returned (.agg #[v0_, v1_]) ∧ Kd.R k36 36 w' w.heap.size (fun _ => True) v0_ r1 ∧ Kd.R Kd.bool 4 w' w.heap.size (fun _ => True) v1_ r2 ∧ Below w.heap.size w w' := by
 have hu27 := Try.underlying27; have bC := Aside0.mk hr0_0; have bL := Aside0.mk hc0_0; clear hr0_0 hc0_0; have bM := Aside0.mk hr0_1; have bN := Aside0.mk hc0_1; clear hr0_1 hc0_1; have HB := Aside0.mk (Below.refl w.heap.size w); have H : ((Clone_Word.f l0_0).bind fun bO => ((Clone_bool.f l0_1).bind fun bK => (some (bO, bK)))) = some (r1, r2) := h; clear h; replace H := Option.bind_eq_some_iff.mp H; obtain ⟨bO, A20, H⟩ := H; replace H : ((Clone_bool.f l0_1).bind fun bK => (some (bO, bK))) = some (r1, r2) := H; have A2 := Aside0.mk A20; clear A20; replace H := Option.bind_eq_some_iff.mp H; obtain ⟨bK, A30, H⟩ := H; replace H : (some (bO, bK)) = some (r1, r2) := H; have A3 := Aside0.mk A30; clear A30; simp only [Option.some.injEq, Prod.mk.injEq] at H; obtain ⟨rfl, rfl⟩ := H
 go_enter Try.func26, Try.ntmps26
 try go_wp2_with (first | ((with_reducible refine gate_dst (N := 1) rfl ?_); refine bxe 1 #[.slice A0_0 l0_0.length c0_0, .slice A0_1 l0_1.length c0_1] 27 ?_; intro dI hg w4 hbox hb; have bs := hbox; have eD := nge HB hg; have eE := nge HB hg; replace HB := nbs HB hb; clear hb hbox hg) | ((with_reducible refine gate_dst (N := 2) rfl ?_); refine bxe 2 #[.slice none 0 0, .slice none 0 0] 27 ?_; intro dA hg w5 hbox hb; have bt := hbox; have eF := nge HB hg; have eG := nge HB hg; have dn := nlt bs hg; have dJ := ngt bs hg; replace bs := nblk bs hb; replace HB := nbs HB hb; clear hb hbox hg))
 replace bs := Aside0.mk (blk_drew bs.out); replace bt := Aside0.mk (blk_drew bt.out); replace HB := Aside0.mk (below_drew1 HB.out); refine start_ (n := 8) (S := fun w' => w'.cell? ⟨dI, 0, none⟩ = some (.slice A0_0 l0_0.length c0_0) ∧ w'.cell? ⟨dI, 1, none⟩ = some (.slice A0_1 l0_1.length c0_1)) (ds := []) #[false, false, false, false, false, false, false, false] (by kernel_rfl) rfl rfl (c2e bs) (fun hHeld => ?_); refine with_tabW impl_cloneMemory.tab1 impl_cloneMemory.bits1 (fun HT_ HW_ => ?_); generalize w5.drew = w6 at bs bt HB hHeld ⊢; refine rP HT_.out 0 3 #[true, false, false, false, false, false, false, false] ?_; refine rP HT_.out 3 6 #[true, false, false, true, false, false, false, false] ?_; refine rT HT_.out HW_.out hHeld 1 4 #[true, true, false, true, false, false, false, false] ?_; refine rT HT_.out HW_.out hHeld 4 7 #[true, true, false, true, true, false, false, false] ?_; refine one_ (i := 2) (N := some 5) #[true, true, true, true, true, false, false, false] rfl rfl (one_of HT_.out (by kernel_rfl)) (by decide) (fun K hK => ?_); refine goesR Try.func50 (by kernel_rfl) rfl #[.slice A0_0 l0_0.length c0_0] (by rfl) rfl rfl ?_; (with_reducible refine (Clone_Word.calls _ _ l0_0 bO _ ?side1 ?side2 A2.out).mono ?_); (case side1 => exact nCb bC HB); (case side2 => exact bL.out); rintro e w7 ⟨eH, rfl, bH, hb⟩; refine ⟨_, rfl, ?_⟩; have dp := Aside0.mk (Kd.R_lower bH (bsz HB)); replace bs := nblk bs hb; replace bt := nblk bt hb; replace HB := nbs HB hb; (try clear hb); (try clear bH); refine hK.out _ _ (c2e bs) (fun hHeld => ?_); clear hK K; refine norm_ (a' := ?_) ?_ ?_; rotate_left
 ·show Act.put _ (some 5) _ = _
  simp only [Act.put, List.setIfInBounds_toArray, List.set_cons_zero, List.set_cons_succ, i64_w, i32_w]; rfl
 refine one_ (i := 5) (N := some 8) #[true, true, true, true, true, true, false, false] rfl rfl (one_of HT_.out (by kernel_rfl)) (by decide) (fun K hK => ?_); refine goesR Try.func51 (by kernel_rfl) rfl #[.slice A0_1 l0_1.length c0_1] (by rfl) rfl rfl ?_; (with_reducible refine (Clone_bool.calls _ _ l0_1 bK _ ?side1 ?side2 A3.out).mono ?_); (case side1 => exact nCb bM HB); (case side2 => exact bN.out); rintro e w8 ⟨eI, rfl, bH, hb⟩; refine ⟨_, rfl, ?_⟩; have dK := Aside0.mk (Kd.R_lower bH (bsz HB)); replace dp := nR dp hb; replace bs := nblk bs hb; replace bt := nblk bt hb; replace HB := nbs HB hb; (try clear hb); (try clear bH); obtain ⟨ea, eb, dL⟩ := Kd.R_slice dK.out; (first | subst dL | (injection dL with f1_ f2_ f3_; have f4_ := f1_.symm; have f5_ := f3_.symm; clear f1_ f2_ f3_; subst f4_; subst f5_)); obtain ⟨ec, ed, dM⟩ := Kd.R_slice dp.out; (first | subst dM | (injection dM with f1_ f2_ f3_; have f4_ := f1_.symm; have f5_ := f3_.symm; clear f1_ f2_ f3_; subst f4_; subst f5_)); refine hK.out _ _ (c2e bs) (fun hHeld => ?_); clear hK K; refine norm_ (a' := ?_) ?_ ?_; rotate_left
 ·show Act.put _ (some 8) _ = _
  simp only [Act.put, List.setIfInBounds_toArray, List.set_cons_zero, List.set_cons_succ, i64_w, i32_w]; rfl
 refine rP HT_.out 6 9 #[true, true, true, true, true, true, true, false] ?_; refine one_ (i := 7) (N := none) #[true, true, true, true, true, true, true, true] rfl rfl (one_of HT_.out (by kernel_rfl)) (by decide) (fun K hK => ?_); have hs11 : w8.cell? ⟨dA, 0, none⟩ = some (.slice none 0 0) := (blk_cell bt.out 0).trans rfl; have hfs11 := blk_frozen bt.out 0; have hns11_0 := dn.out; have hms11_0 := dJ.out; have hs12 : w8.cell? ⟨dA, 1, none⟩ = some (.slice none 0 0) := (blk_cell bt.out 1).trans rfl; have hfs12 := blk_frozen bt.out 1; have hns12_0 := dn.out; have hms12_0 := dJ.out; refine skip_ (w1 := ?_) (by rfl) rfl ?_ ?_; rotate_left
 ·go_simp
  rfl
 refine hK.out _ _ ⟨(g2 dn.out hHeld.1), (g2 dn.out hHeld.2)⟩ (fun hHeld => ?_); clear hK K; refine done_ (done_of HT_.out (by kernel_rfl)) ?_
 try go_wp2
 refine bodyPost_ret (results_cell_row rfl _ _ dA 27 #[.slice ec bO.length ed, .slice ea bK.length eb] (0, 0) _ rfl (q2 bt) Try.underlying27 rfl (by kernel_rfl)) rfl ?_; exact ⟨_, _, er_, by (with_reducible repeat (first | apply Kd.R_alloc | apply Kd.R_drewN | apply Kd.R_drew)); exact Kd.R_mono (eR2_ (Kd.R_types dp.out bt.out (by decide))) (fun _ hk => trivial), by (with_reducible repeat (first | apply Kd.R_alloc | apply Kd.R_drewN | apply Kd.R_drew)); exact Kd.R_mono (eR2_ (Kd.R_types dK.out bt.out (by decide))) (fun _ hk => trivial), nbe HB⟩

/-! ### impl_Sweep: function 7 -/
def impl_Sweep.f (k : Nat) (l0_0 : List (S36)) (l0_1 : List Bool) (a1 : Int) : Option ((List (S36)) × List Bool) := (impl_MemoryOk.f k l0_0 l0_1).bind fun b6 => (if b6 = true then ((impl_cloneMemory.f l0_0 l0_1).bind fun bl => ((impl_in.f a1 0 23).bind fun bD => (if bD = true then (if 0 ≤ a1 then (if a1 < (l0_0.length : Int) then ((impl_Filter.f l0_0 l0_1 ((rd_T36 l0_0 a1).f0) ((rd_T36 l0_0 a1).f1) ((rd_T36 l0_0 a1).f2.f0) ((rd_T36 l0_0 a1).f2.f1) ((rd_T36 l0_0 a1).f2.f2) ((rd_T36 l0_0 a1).f2.f3)).bind fun bd => (if a1 < (bl.1.length : Int) then (some ((bl.1.set (a1 : Int).toNat (⟨bd.1, bd.2.1, (⟨bd.2.2.1, bd.2.2.2.1, bd.2.2.2.2.1, bd.2.2.2.2.2⟩ : S34)⟩ : S36)), bl.2)) else (none))) else (none)) else (none)) else (some (bl.1, bl.2))))) else (some (([] : List (S36)), ([] : List Bool))))
theorem impl_Sweep.mono : ∀ a0 a1 a2 k, LeO (impl_Sweep.f k a0 a1 a2) (impl_Sweep.f (k + 1) a0 a1 a2) := by
 intro a0 a1 a2 k
 unfold impl_Sweep.f
 repeat' first
   | (with_reducible exact impl_MemoryOk.mono _ _ _)
   | (with_reducible exact LeO.refl _)
   | (with_reducible exact LeO.none _)
   | (with_reducible refine LeO.ite ?_ ?_)
   | (with_reducible refine LeO.bind ?_ (fun _ => ?_))
   | exact impl_MemoryOk.mono _ _ _
   | exact LeO.none _
   | refine LeO.ite ?_ ?_
   | refine LeO.bind ?_ (fun _ => ?_)
def impl_Sweep.T5 : Bool × List (List Nat × List Nat) := (true, [([], []), ([0], [0]), ([], []), ([], []), ([], []), ([4], [4]), ([], []), ([5, 6], [5, 6]), ([7], [7]), ([3, 8], [3, 8]), ([1, 2, 0, 1, 2, 3, 4, 5, 6, 7, 8, 9], [1, 2]), ([10, 9, 9, 0, 1, 2, 3, 4, 5, 6, 7, 8, 9], [9, 10])])
def impl_Sweep.B5 : List Nat := [0, 1, 0, 0, 0, 16, 0, 112, 240, 504, 1023, 2047]
theorem impl_Sweep.tab5 : rtab .any (opsOf Try.f7 5) = impl_Sweep.T5 := by kernel_rfl
theorem impl_Sweep.bits5 : waitsOk impl_Sweep.T5.2 impl_Sweep.B5 = true := by kernel_rfl
set_option maxHeartbeats 8000000 in
set_option maxRecDepth 100000 in
theorem impl_Sweep.calls (k : Nat) (A0_0 : Option Addr) (c0_0 : Nat) (l0_0 : List (S36)) (A0_1 : Option Addr) (c0_1 : Nat) (l0_1 : List Bool) (a1 : Int) (r1 : List (S36)) (r2 : List Bool) (w : World) (hr0_0 : Kd.C k36 w A0_0 l0_0.length l0_0) (hc0_0 : l0_0.length ≤ c0_0) (hr0_1 : Kd.C Kd.bool w A0_1 l0_1.length l0_1) (hc0_1 : l0_1.length ≤ c0_1) (h : impl_Sweep.f k l0_0 l0_1 a1 = some (r1, r2)) :
  Calls Try.prog 7 #[.agg #[.slice A0_0 l0_0.length c0_0, .slice A0_1 l0_1.length c0_1], .int .i64 a1] w fun e w' => ∃ v0_ v1_ : Value, e = .returned (.agg #[v0_, v1_]) ∧ Kd.R k36 36 w' w.heap.size (fun _ => True) v0_ r1 ∧ Kd.R Kd.bool 4 w' w.heap.size (fun _ => True) v1_ r2 ∧ Below w.heap.size w w' := by
 have hu27 := Try.underlying27; have hu36 := Try.underlying36; have bC := Aside0.mk hr0_0; have bL := Aside0.mk hc0_0; clear hr0_0 hc0_0; have bM := Aside0.mk hr0_1; have bN := Aside0.mk hc0_1; clear hr0_1 hc0_1; have HB := Aside0.mk (Below.refl w.heap.size w); have H : ((impl_MemoryOk.f k l0_0 l0_1).bind fun b6 => (if b6 = true then ((impl_cloneMemory.f l0_0 l0_1).bind fun bl => ((impl_in.f a1 0 23).bind fun bD => (if bD = true then (if 0 ≤ a1 then (if a1 < (l0_0.length : Int) then ((impl_Filter.f l0_0 l0_1 ((rd_T36 l0_0 a1).f0) ((rd_T36 l0_0 a1).f1) ((rd_T36 l0_0 a1).f2.f0) ((rd_T36 l0_0 a1).f2.f1) ((rd_T36 l0_0 a1).f2.f2) ((rd_T36 l0_0 a1).f2.f3)).bind fun bd => (if a1 < (bl.1.length : Int) then (some ((bl.1.set (a1 : Int).toNat (⟨bd.1, bd.2.1, (⟨bd.2.2.1, bd.2.2.2.1, bd.2.2.2.2.1, bd.2.2.2.2.2⟩ : S34)⟩ : S36)), bl.2)) else (none))) else (none)) else (none)) else (some (bl.1, bl.2))))) else (some (([] : List (S36)), ([] : List Bool))))) = some (r1, r2) := h; clear h; replace H := Option.bind_eq_some_iff.mp H; obtain ⟨b6, A30, H⟩ := H; replace H : (if b6 = true then ((impl_cloneMemory.f l0_0 l0_1).bind fun bl => ((impl_in.f a1 0 23).bind fun bD => (if bD = true then (if 0 ≤ a1 then (if a1 < (l0_0.length : Int) then ((impl_Filter.f l0_0 l0_1 ((rd_T36 l0_0 a1).f0) ((rd_T36 l0_0 a1).f1) ((rd_T36 l0_0 a1).f2.f0) ((rd_T36 l0_0 a1).f2.f1) ((rd_T36 l0_0 a1).f2.f2) ((rd_T36 l0_0 a1).f2.f3)).bind fun bd => (if a1 < (bl.1.length : Int) then (some ((bl.1.set (a1 : Int).toNat (⟨bd.1, bd.2.1, (⟨bd.2.2.1, bd.2.2.2.1, bd.2.2.2.2.1, bd.2.2.2.2.2⟩ : S34)⟩ : S36)), bl.2)) else (none))) else (none)) else (none)) else (some (bl.1, bl.2))))) else (some (([] : List (S36)), ([] : List Bool)))) = some (r1, r2) := H; have A3 := Aside0.mk A30; clear A30
 by_cases c4 : b6 = true
 ·subst c4
  have H1 : ((impl_cloneMemory.f l0_0 l0_1).bind fun bl => ((impl_in.f a1 0 23).bind fun bD => (if bD = true then (if 0 ≤ a1 then (if a1 < (l0_0.length : Int) then ((impl_Filter.f l0_0 l0_1 ((rd_T36 l0_0 a1).f0) ((rd_T36 l0_0 a1).f1) ((rd_T36 l0_0 a1).f2.f0) ((rd_T36 l0_0 a1).f2.f1) ((rd_T36 l0_0 a1).f2.f2) ((rd_T36 l0_0 a1).f2.f3)).bind fun bd => (if a1 < (bl.1.length : Int) then (some ((bl.1.set (a1 : Int).toNat (⟨bd.1, bd.2.1, (⟨bd.2.2.1, bd.2.2.2.1, bd.2.2.2.2.1, bd.2.2.2.2.2⟩ : S34)⟩ : S36)), bl.2)) else (none))) else (none)) else (none)) else (some (bl.1, bl.2))))) = some (r1, r2) := by rw [if_pos rfl] at H; exact H
  clear H; have H := H1; clear H1; replace H := Option.bind_eq_some_iff.mp H; obtain ⟨⟨bf, bj⟩, A50, H⟩ := H; replace H : ((impl_in.f a1 0 23).bind fun bD => (if bD = true then (if 0 ≤ a1 then (if a1 < (l0_0.length : Int) then ((impl_Filter.f l0_0 l0_1 ((rd_T36 l0_0 a1).f0) ((rd_T36 l0_0 a1).f1) ((rd_T36 l0_0 a1).f2.f0) ((rd_T36 l0_0 a1).f2.f1) ((rd_T36 l0_0 a1).f2.f2) ((rd_T36 l0_0 a1).f2.f3)).bind fun bd => (if a1 < (bf.length : Int) then (some ((bf.set (a1 : Int).toNat (⟨bd.1, bd.2.1, (⟨bd.2.2.1, bd.2.2.2.1, bd.2.2.2.2.1, bd.2.2.2.2.2⟩ : S34)⟩ : S36)), bj)) else (none))) else (none)) else (none)) else (some (bf, bj)))) = some (r1, r2) := H; have A5 := Aside0.mk A50; clear A50; replace H := Option.bind_eq_some_iff.mp H; obtain ⟨bD, A60, H⟩ := H; replace H : (if bD = true then (if 0 ≤ a1 then (if a1 < (l0_0.length : Int) then ((impl_Filter.f l0_0 l0_1 ((rd_T36 l0_0 a1).f0) ((rd_T36 l0_0 a1).f1) ((rd_T36 l0_0 a1).f2.f0) ((rd_T36 l0_0 a1).f2.f1) ((rd_T36 l0_0 a1).f2.f2) ((rd_T36 l0_0 a1).f2.f3)).bind fun bd => (if a1 < (bf.length : Int) then (some ((bf.set (a1 : Int).toNat (⟨bd.1, bd.2.1, (⟨bd.2.2.1, bd.2.2.2.1, bd.2.2.2.2.1, bd.2.2.2.2.2⟩ : S34)⟩ : S36)), bj)) else (none))) else (none)) else (none)) else (some (bf, bj))) = some (r1, r2) := H; have A6 := Aside0.mk A60; clear A60
  by_cases c7 : bD = true
  ·subst c7
   have H1 : (if 0 ≤ a1 then (if a1 < (l0_0.length : Int) then ((impl_Filter.f l0_0 l0_1 ((rd_T36 l0_0 a1).f0) ((rd_T36 l0_0 a1).f1) ((rd_T36 l0_0 a1).f2.f0) ((rd_T36 l0_0 a1).f2.f1) ((rd_T36 l0_0 a1).f2.f2) ((rd_T36 l0_0 a1).f2.f3)).bind fun bd => (if a1 < (bf.length : Int) then (some ((bf.set (a1 : Int).toNat (⟨bd.1, bd.2.1, (⟨bd.2.2.1, bd.2.2.2.1, bd.2.2.2.2.1, bd.2.2.2.2.2⟩ : S34)⟩ : S36)), bj)) else (none))) else (none)) else (none)) = some (r1, r2) := by rw [if_pos rfl] at H; exact H
   clear H; have H := H1; clear H1
   by_cases c8 : 0 ≤ a1
   ·rw [if_pos c8] at H
    have c8b0 : decide (0 ≤ a1) = true := decide_eq_true c8; clear c8
    by_cases c9 : a1 < (l0_0.length : Int)
    ·rw [if_pos c9] at H
     have c9b0 : decide (a1 < (l0_0.length : Int)) = true := decide_eq_true c9; clear c9; replace H := Option.bind_eq_some_iff.mp H; obtain ⟨⟨bu, bv, bw, bx, bz, bA⟩, A100, H⟩ := H; replace H : (if a1 < (bf.length : Int) then (some ((bf.set (a1 : Int).toNat (⟨bu, bv, (⟨bw, bx, bz, bA⟩ : S34)⟩ : S36)), bj)) else (none)) = some (r1, r2) := H; have A10 := Aside0.mk A100; clear A100
     by_cases c11 : a1 < (bf.length : Int)
     ·rw [if_pos c11] at H
      have c11b0 : decide (a1 < (bf.length : Int)) = true := decide_eq_true c11; clear c11; obtain ⟨dN, b8⟩ : ∃ y_ : List (S36), y_ = (bf.set (a1 : Int).toNat (⟨bu, bv, (⟨bw, bx, bz, bA⟩ : S34)⟩ : S36)) := ⟨_, rfl⟩; replace H : (some (dN, bj)) = some (r1, r2) := by first | (rw [b8]; with_reducible exact H) | (have H2_ := (Option.bind_some _ _).symm.trans H; rw [b8]; with_reducible exact H2_) | (have H2_ := (Option.bind_some _ _).symm.trans H; with_reducible exact H2_) | with_reducible exact H | (rw [b8]; exact H) | exact H
      have ee := Aside0.mk b8; clear b8; simp only [Option.some.injEq, Prod.mk.injEq] at H; obtain ⟨rfl, rfl⟩ := H
      go_enter Try.func7, Try.ntmps7
      try go_wp2_with (first | ((with_reducible refine gate_dst (N := 2) rfl ?_); refine bxe 2 #[.slice A0_0 l0_0.length c0_0, .slice A0_1 l0_1.length c0_1] 27 ?_; intro bP hg eJ hbox hb; have ba := hbox; have dO := nge HB hg; have dP := nge HB hg; replace HB := nbs HB hb; clear hb hbox hg) | ((with_reducible refine gate_dst (N := 4) rfl ?_); refine bxe 4 #[.slice none 0 0, .slice none 0 0] 27 ?_; intro bE hg dQ hbox hb; have bc := hbox; have dR := nge HB hg; have dS := nge HB hg; have b9 := nlt ba hg; have da := ngt ba hg; replace ba := nblk ba hb; replace HB := nbs HB hb; clear hb hbox hg; have eK := b9.out; have eL := da.out; obtain ⟨eM, eN⟩ := c2e ba; obtain ⟨eO, eP⟩ := z2_ ba) | ((with_reducible refine gate_callee (f := 12) rfl ?_); refine goesM (some 7) rfl rfl Try.func12 (by kernel_rfl) rfl #[.agg #[.slice A0_0 l0_0.length c0_0, .slice A0_1 l0_1.length c0_1]] rfl ?_; (with_reducible refine (impl_MemoryOk.calls k _ _ l0_0 _ _ l0_1 true _ ?side1 ?side2 ?side3 ?side4 A3.out).mono ?_); (case side1 => exact nCb bC HB); (case side2 => exact bL.out); (case side3 => exact nCb bM HB); (case side4 => exact bN.out); rintro e eQ ⟨rfl, hb⟩; refine ⟨_, rfl, ?_⟩; replace ba := nblk ba hb; replace bc := nblk bc hb; replace HB := nbs HB hb; (try clear hb); obtain ⟨eR, eS⟩ := c2e ba; obtain ⟨eT, eU⟩ := z2_ ba) | ((with_reducible refine gate_callee (f := 26) rfl ?_); refine goesM (some 11) rfl rfl Try.func26 (by kernel_rfl) rfl #[.agg #[.slice A0_0 l0_0.length c0_0, .slice A0_1 l0_1.length c0_1]] rfl ?_; (with_reducible refine (impl_cloneMemory.calls _ _ l0_0 _ _ l0_1 bf bj _ ?side1 ?side2 ?side3 ?side4 A5.out).mono ?_); (case side1 => exact nCb bC HB); (case side2 => exact bL.out); (case side3 => exact nCb bM HB); (case side4 => exact bN.out); rintro e eV ⟨ef, eg, rfl, bH, db, hb⟩; refine ⟨_, rfl, ?_⟩; have bg := Aside0.mk (Kd.R_lower bH (bsz HB)); have bm := Aside0.mk (Kd.R_lower db (bsz HB)); replace ba := nblk ba hb; replace bc := nblk bc hb; replace HB := nbs HB hb; (try clear hb); (try clear bH); (try clear db)) | ((with_reducible refine gate_dst (N := 5) rfl ?_); refine bxe 5 #[.slice none 0 0, .slice none 0 0] 27 ?_; intro bk hg bQ hbox hb; have bi := hbox; have eh := nge HB hg; have ei := nge HB hg; have dq := nlt ba hg; have dB := ngt ba hg; have dc := nlt bc hg; have dC := ngt bc hg; replace bg := nR bg hb; replace bm := nR bm hb; replace ba := nblk ba hb; replace bc := nblk bc hb; replace HB := nbs HB hb; clear hb hbox hg; obtain ⟨bF, bp, ej⟩ := Kd.R_slice bg.out; subst ej; have eW := dB.out; have eX := dq.out; have eY := dC.out; have eZ := dc.out; obtain ⟨e0, e1⟩ := c2e bi; obtain ⟨e2, e3⟩ := z2_ bi; obtain ⟨bq, br, ek⟩ := Kd.R_slice bm.out; subst ek) | ((with_reducible refine gate_callee (f := 27) rfl ?_); refine goesM (some 13) rfl rfl Try.func27 (by kernel_rfl) rfl #[.int .i64 a1, .int .i64 0, .int .i64 23] rfl ?_; (with_reducible refine (impl_in.calls a1 0 23 true _ A6.out).mono ?_); rintro e w' ⟨rfl, ⟨nd, rfl⟩⟩; refine ⟨_, rfl, ?_⟩))
      have bR : Aside0 (Kd.R k36 36 ((bQ.setCell ⟨bk, 0, none⟩ (.slice bF bf.length bp)).setCell ⟨bk, 1, none⟩ (.slice bq bj.length br)) w.heap.size (fun _ => True) (.slice bF bf.length bp) bf) := ⟨by (with_reducible repeat (first | apply Kd.R_alloc | apply Kd.R_drewN | apply Kd.R_drew)); exact Kd.R_mono (eR2_ (Kd.R_types bg.out bi.out (by decide))) (fun _ hk => trivial)⟩; have bS : Aside0 (Kd.R Kd.bool 4 ((bQ.setCell ⟨bk, 0, none⟩ (.slice bF bf.length bp)).setCell ⟨bk, 1, none⟩ (.slice bq bj.length br)) w.heap.size (fun _ => True) (.slice bq bj.length br) bj) := ⟨by (with_reducible repeat (first | apply Kd.R_alloc | apply Kd.R_drewN | apply Kd.R_drew)); exact Kd.R_mono (eR2_ (Kd.R_types bm.out bi.out (by decide))) (fun _ hk => trivial)⟩; have bT : Aside0 (((bQ.setCell ⟨bk, 0, none⟩ (.slice bF bf.length bp)).setCell ⟨bk, 1, none⟩ (.slice bq bj.length br)).heap[bP]? = some (.cells #[.slice A0_0 l0_0.length c0_0, .slice A0_1 l0_1.length c0_1] 27 (0, 0))) := ⟨k2_ dq.out (nb ba)⟩; have bU : Aside0 (((bQ.setCell ⟨bk, 0, none⟩ (.slice bF bf.length bp)).setCell ⟨bk, 1, none⟩ (.slice bq bj.length br)).heap[bE]? = some (.cells #[.slice none 0 0, .slice none 0 0] 27 (0, 0))) := ⟨k2_ dc.out (nb bc)⟩; have bV : Aside0 (((bQ.setCell ⟨bk, 0, none⟩ (.slice bF bf.length bp)).setCell ⟨bk, 1, none⟩ (.slice bq bj.length br)).heap[bk]? = some (.cells #[.slice bF bf.length bp, .slice bq bj.length br] 27 (0, 0))) := ⟨q2 bi⟩; have bW : Aside0 (Below w.heap.size w ((bQ.setCell ⟨bk, 0, none⟩ (.slice bF bf.length bp)).setCell ⟨bk, 1, none⟩ (.slice bq bj.length br))) := ⟨nbe HB⟩; (try clear bg); (try clear bm); (try clear ba); (try clear bc); (try clear bi); (try clear HB); generalize ((bQ.setCell ⟨bk, 0, none⟩ (.slice bF bf.length bp)).setCell ⟨bk, 1, none⟩ (.slice bq bj.length br)) = bI at bR bS bT bU bV bW ⊢; have bg := bR; have bm := bS; have ba := bT; have bc := bU; have bi := bV; have HB := bW; clear bR bS bT bU bV bW; (try (rw [drewN_self bI]; generalize hq_ : World.drewN bI _ = bI; replace bg : Aside0 (Kd.R k36 36 bI w.heap.size (fun _ => True) (.slice bF bf.length bp) bf) := ⟨by rw [← hq_]; exact (nRo bg)⟩; replace bm : Aside0 (Kd.R Kd.bool 4 bI w.heap.size (fun _ => True) (.slice bq bj.length br) bj) := ⟨by rw [← hq_]; exact (nRo bm)⟩; replace ba : Aside0 (bI.heap[bP]? = some (.cells #[.slice A0_0 l0_0.length c0_0, .slice A0_1 l0_1.length c0_1] 27 (0, 0))) := ⟨by rw [← hq_]; exact (nb ba)⟩; replace bc : Aside0 (bI.heap[bE]? = some (.cells #[.slice none 0 0, .slice none 0 0] 27 (0, 0))) := ⟨by rw [← hq_]; exact (nb bc)⟩; replace bi : Aside0 (bI.heap[bk]? = some (.cells #[.slice bF bf.length bp, .slice bq bj.length br] 27 (0, 0))) := ⟨by rw [← hq_]; exact (nb bi)⟩; replace HB : Aside0 (Below w.heap.size w bI) := ⟨by rw [← hq_]; exact (nbe HB)⟩; clear hq_)); replace bg := Aside0.mk (Kd.R_drew bg.out); replace bm := Aside0.mk (Kd.R_drew bm.out); replace ba := Aside0.mk (blk_drew ba.out); replace bc := Aside0.mk (blk_drew bc.out); replace bi := Aside0.mk (blk_drew bi.out); replace HB := Aside0.mk (below_drew1 HB.out); have p447 : 0 ≤ (a1 : Int) := of_decide_eq_true (by first | (with_reducible assumption) | assumption); have q447 : a1 < (l0_0.length : Int) := of_decide_eq_true (by first | (with_reducible assumption) | assumption); obtain ⟨bB, e447, dd, de, df, dg, dh, di⟩ := at_T36 bC.out a1 p447 q447; have dr := di; have dt := dh; have du := dg; have dv := df; have dw := de; have dx := dd
      cases e447
      replace dd := (HB.out.cell (World.block_lt_of_cell? w _ dd)).trans dd; replace de := (HB.out.cell (World.block_lt_of_cell? w _ de)).trans de; replace df := (HB.out.cell (World.block_lt_of_cell? w _ df)).trans df; replace dg := (HB.out.cell (World.block_lt_of_cell? w _ dg)).trans dg; replace dh := (HB.out.cell (World.block_lt_of_cell? w _ dh)).trans dh; replace di := (HB.out.cell (World.block_lt_of_cell? w _ di)).trans di; replace p447 := eq_true p447; replace q447 := eq_true q447; refine start_ (n := 12) (S := fun w' => w'.cell? ⟨bk, 0, none⟩ = some (.slice bF bf.length bp) ∧ w'.cell? ⟨bk, 1, none⟩ = some (.slice bq bj.length br) ∧ w'.cell? ⟨bP, 0, none⟩ = some (.slice (some bB) l0_0.length c0_0) ∧ w'.cell? ⟨bP, 1, none⟩ = some (.slice A0_1 l0_1.length c0_1) ∧ w'.cell? (bB.add ((a1).toNat * 6)) = some (.int .i64 ((rd_T36 l0_0 a1).f0)) ∧ w'.cell? ⟨(bB.add ((a1).toNat * 6)).block, (bB.add ((a1).toNat * 6)).off + 1, none⟩ = some (.bool ((rd_T36 l0_0 a1).f1)) ∧ w'.cell? ⟨(bB.add ((a1).toNat * 6)).block, (bB.add ((a1).toNat * 6)).off + 2, none⟩ = some (.int .i64 ((rd_T36 l0_0 a1).f2.f0)) ∧ w'.cell? ⟨(bB.add ((a1).toNat * 6)).block, (bB.add ((a1).toNat * 6)).off + 3, none⟩ = some (.int .i64 ((rd_T36 l0_0 a1).f2.f1)) ∧ w'.cell? ⟨(bB.add ((a1).toNat * 6)).block, (bB.add ((a1).toNat * 6)).off + 4, none⟩ = some (.int .i64 ((rd_T36 l0_0 a1).f2.f2)) ∧ w'.cell? ⟨(bB.add ((a1).toNat * 6)).block, (bB.add ((a1).toNat * 6)).off + 5, none⟩ = some (.int .i64 ((rd_T36 l0_0 a1).f2.f3))) (ds := [11]) (ml [0, 12]) (by kernel_rfl) rfl rfl ⟨(blk_cell bi.out 0).trans rfl, (blk_cell bi.out 1).trans rfl, (blk_cell ba.out 0).trans rfl, (blk_cell ba.out 1).trans rfl, ((HB.out.cell (World.block_lt_of_cell? w _ dx)).trans dx), ((HB.out.cell (World.block_lt_of_cell? w _ dw)).trans dw), ((HB.out.cell (World.block_lt_of_cell? w _ dv)).trans dv), ((HB.out.cell (World.block_lt_of_cell? w _ du)).trans du), ((HB.out.cell (World.block_lt_of_cell? w _ dt)).trans dt), ((HB.out.cell (World.block_lt_of_cell? w _ dr)).trans dr)⟩ (fun hHeld => ?_); refine with_tabW impl_Sweep.tab5 impl_Sweep.bits5 (fun HT_ HW_ => ?_); generalize bI.drew = e4 at bg bm ba bc bi HB dd de df dg dh di hHeld ⊢; refine rP HT_.out 0 14 (ml [1, 11]) ?_; refine rP HT_.out 2 16 (ml [1, 1, 1, 9]) ?_; refine rP HT_.out 4 18 (ml [1, 1, 1, 1, 1, 7]) ?_; refine rP HT_.out 6 20 (ml [1, 1, 1, 1, 1, 1, 1, 5]) ?_; refine rT HT_.out HW_.out hHeld 1 15 (ml [3, 1, 1, 1, 1, 5]) ?_; refine rT HT_.out HW_.out hHeld 3 17 (ml [5, 1, 1, 5]) ?_; refine rT HT_.out HW_.out hHeld 5 19 (ml [7, 5]) ?_; refine rP HT_.out 7 21 (ml [8, 4]) ?_; refine rT HT_.out HW_.out hHeld 8 22 (ml [9, 3]) ?_; refine one_ (i := 9) (N := some 23) (ml [10, 2]) rfl rfl (one_of HT_.out (by kernel_rfl)) (by decide) (fun K hK => ?_); refine goesR Try.func16 (by kernel_rfl) rfl #[.agg #[.slice (some bB) l0_0.length c0_0, .slice A0_1 l0_1.length c0_1], .agg #[.int .i64 ((rd_T36 l0_0 a1).f0), .bool ((rd_T36 l0_0 a1).f1), .int .i64 ((rd_T36 l0_0 a1).f2.f0), .int .i64 ((rd_T36 l0_0 a1).f2.f1), .int .i64 ((rd_T36 l0_0 a1).f2.f2), .int .i64 ((rd_T36 l0_0 a1).f2.f3)]] (by rfl) rfl rfl ?_; (with_reducible refine (impl_Filter.calls _ _ l0_0 _ _ l0_1 ((rd_T36 l0_0 a1).f0) ((rd_T36 l0_0 a1).f1) ((rd_T36 l0_0 a1).f2.f0) ((rd_T36 l0_0 a1).f2.f1) ((rd_T36 l0_0 a1).f2.f2) ((rd_T36 l0_0 a1).f2.f3) bu bv bw bx bz bA _ ?side1 ?side2 ?side3 ?side4 A10.out).mono ?_); (case side1 => exact nCb bC HB); (case side2 => exact bL.out); (case side3 => exact nCb bM HB); (case side4 => exact bN.out); rintro e bX ⟨rfl, hb⟩; refine ⟨_, rfl, ?_⟩; replace bg := nR bg hb; replace bm := nR bm hb; replace ba := nblk ba hb; replace bc := nblk bc hb; replace bi := nblk bi hb; replace HB := nbs HB hb; (try clear hb); have p12 : 0 ≤ (a1 : Int) := of_decide_eq_true (by first | (with_reducible assumption) | assumption); have q12 : (a1 : Int) < ((bf.length : Int) : Int) := of_decide_eq_true (by first | (with_reducible assumption) | assumption); obtain ⟨bb, e5, dT, dU, gl12, cl12, HG12⟩ := Kd.R_form bg.out (by omega); (first | cases dT | (injection dT with ea_ en_ ec_; (first | subst ea_ | (injection ea_ with ea_; subst ea_)); subst ec_; clear en_)); have e6 := Aside0.mk dU; have el := Aside0.mk HG12; clear dU gl12 HG12; obtain ⟨e7, em, dV, bY, bZ⟩ := Kd.R_elem bg.out z36 (a1 : Int) p12 q12; obtain rfl := k36_openM dV; have e8 : World.cell? _ ⟨bb, (a1 : Int).toNat * 6, none⟩ = some (.int .i64 ((rd_T36 bf a1).f0)) := bY 0 _ rfl; have e9 : World.cell? _ ⟨bb, (a1 : Int).toNat * 6 + 1, none⟩ = some (.bool ((rd_T36 bf a1).f1)) := bY 1 _ rfl; have ga : World.cell? _ ⟨bb, (a1 : Int).toNat * 6 + 2, none⟩ = some (.int .i64 ((rd_T36 bf a1).f2.f0)) := bY 2 _ rfl; have gb : World.cell? _ ⟨bb, (a1 : Int).toNat * 6 + 3, none⟩ = some (.int .i64 ((rd_T36 bf a1).f2.f1)) := bY 3 _ rfl; have gc : World.cell? _ ⟨bb, (a1 : Int).toNat * 6 + 4, none⟩ = some (.int .i64 ((rd_T36 bf a1).f2.f2)) := bY 4 _ rfl; have gd : World.cell? _ ⟨bb, (a1 : Int).toNat * 6 + 5, none⟩ = some (.int .i64 ((rd_T36 bf a1).f2.f3)) := bY 5 _ rfl; have hf12_0 : World.frozen? _ ⟨bb, (a1 : Int).toNat * 6, none⟩ = false := bZ 0; have hf12_1 : World.frozen? _ ⟨bb, (a1 : Int).toNat * 6 + 1, none⟩ = false := bZ 1; have hf12_2 : World.frozen? _ ⟨bb, (a1 : Int).toNat * 6 + 2, none⟩ = false := bZ 2; have hf12_3 : World.frozen? _ ⟨bb, (a1 : Int).toNat * 6 + 3, none⟩ = false := bZ 3; have hf12_4 : World.frozen? _ ⟨bb, (a1 : Int).toNat * 6 + 4, none⟩ = false := bZ 4; have hf12_5 : World.frozen? _ ⟨bb, (a1 : Int).toNat * 6 + 5, none⟩ = false := bZ 5; clear em bY bZ dV; replace p12 := eq_true p12; replace q12 := eq_true q12; obtain ⟨gf, dW, dX, dY, en⟩ := Kd.R_elem bg.out z36 (a1 : Int) (of_decide_eq_true (by first | (with_reducible assumption) | assumption)) (by have h_ : (a1 : Int) < ((bf.length : Int) : Int) := of_decide_eq_true (by first | (with_reducible assumption) | assumption); first | exact h_ | (have e_ := (Kd.R_reads' bg.out).1; omega) | simpa using h_); obtain rfl := k36_openM dX; have HP29 := (Kd.R_seg bg.out (a1 : Int) (of_decide_eq_true (by first | (with_reducible assumption) | assumption)) (by have h_ : (a1 : Int) < ((bf.length : Int) : Int) := of_decide_eq_true (by first | (with_reducible assumption) | assumption); first | exact h_ | (have e_ := (Kd.R_reads' bg.out).1; omega) | simpa using h_) (seg := [.int .i64 bu, .bool bv, .int .i64 bw, .int .i64 bx, .int .i64 bz, .int .i64 bA]) (j := 0) dW dY (show 6 ≤ 6 from by decide) (x' := (⟨bu, bv, (⟨bw, bx, bz, bA⟩ : S34)⟩ : S36)) (k36_mkM _ _ _ (⟨bu, bv, (⟨bw, bx, bz, bA⟩ : S34)⟩ : S36) ) (fun _ hk => hk)).1; rw [← ee.out] at HP29; have HQ29 := Aside0.mk HP29; clear dW dY en dX HP29; refine hK.out _ _ ⟨(blk_cell bi.out 0).trans rfl, (blk_cell bi.out 1).trans rfl, (blk_cell ba.out 0).trans rfl, (blk_cell ba.out 1).trans rfl, ((HB.out.cell (World.block_lt_of_cell? w _ dx)).trans dx), ((HB.out.cell (World.block_lt_of_cell? w _ dw)).trans dw), ((HB.out.cell (World.block_lt_of_cell? w _ dv)).trans dv), ((HB.out.cell (World.block_lt_of_cell? w _ du)).trans du), ((HB.out.cell (World.block_lt_of_cell? w _ dt)).trans dt), ((HB.out.cell (World.block_lt_of_cell? w _ dr)).trans dr)⟩ (fun hHeld => ?_); clear hK K; refine norm_ (a' := ?_) ?_ ?_; rotate_left
      ·show Act.put _ (some 23) _ = _
       simp only [Act.put, List.setIfInBounds_toArray, List.set_cons_zero, List.set_cons_succ, i64_w, i32_w]; rfl
      refine rP HT_.out 10 24 (ml [11, 1]) ?_; refine last_ (i := 11) (N := none) (ml [12]) rfl rfl (one_of HT_.out (by kernel_rfl)) (by decide) (fun K hK => ?_); refine skip_ (w1 := ?_) (by rfl) rfl ?_ ?_; rotate_left
      ·go_simp
       rfl
      refine hK.out _ _ ?_; clear hK K; refine done_ (done_of HT_.out (by kernel_rfl)) ?_; have bR : Aside0 (Kd.R k36 36 ((((((bX.setCell ⟨bb, (a1 : Int).toNat * 6, none⟩ (.int .i64 bu)).setCell ⟨bb, (a1 : Int).toNat * 6 + 1, none⟩ (.bool bv)).setCell ⟨bb, (a1 : Int).toNat * 6 + 2, none⟩ (.int .i64 bw)).setCell ⟨bb, (a1 : Int).toNat * 6 + 3, none⟩ (.int .i64 bx)).setCell ⟨bb, (a1 : Int).toNat * 6 + 4, none⟩ (.int .i64 bz)).setCell ⟨bb, (a1 : Int).toNat * 6 + 5, none⟩ (.int .i64 bA)) w.heap.size (fun _ => True) (.slice (some ⟨bb, 0, none⟩) bf.length bp) dN) := ⟨by (with_reducible repeat (first | apply Kd.R_alloc | apply Kd.R_drewN | apply Kd.R_drew)); exact HQ29.out⟩; have bS : Aside0 (Kd.R Kd.bool 4 ((((((bX.setCell ⟨bb, (a1 : Int).toNat * 6, none⟩ (.int .i64 bu)).setCell ⟨bb, (a1 : Int).toNat * 6 + 1, none⟩ (.bool bv)).setCell ⟨bb, (a1 : Int).toNat * 6 + 2, none⟩ (.int .i64 bw)).setCell ⟨bb, (a1 : Int).toNat * 6 + 3, none⟩ (.int .i64 bx)).setCell ⟨bb, (a1 : Int).toNat * 6 + 4, none⟩ (.int .i64 bz)).setCell ⟨bb, (a1 : Int).toNat * 6 + 5, none⟩ (.int .i64 bA)) w.heap.size (fun _ => True) (.slice bq bj.length br) bj) := ⟨by (with_reducible repeat (first | apply Kd.R_alloc | apply Kd.R_drewN | apply Kd.R_drew)); exact Kd.R_mono (Kd.R_far (p := ⟨bb, (a1 : Int).toNat * 6 + 5, none⟩) (Kd.R_far (p := ⟨bb, (a1 : Int).toNat * 6 + 4, none⟩) (Kd.R_far (p := ⟨bb, (a1 : Int).toNat * 6 + 3, none⟩) (Kd.R_far (p := ⟨bb, (a1 : Int).toNat * 6 + 2, none⟩) (Kd.R_far (p := ⟨bb, (a1 : Int).toNat * 6 + 1, none⟩) (Kd.R_far (p := ⟨bb, (a1 : Int).toNat * 6, none⟩) (Kd.R_types bm.out el.out (by decide)) (fun _ hk => hk.2) (.int .i64 bu)) (fun _ hk => hk.2) (.bool bv)) (fun _ hk => hk.2) (.int .i64 bw)) (fun _ hk => hk.2) (.int .i64 bx)) (fun _ hk => hk.2) (.int .i64 bz)) (fun _ hk => hk.2) (.int .i64 bA)) (fun _ hk => trivial)⟩; have bT : Aside0 (((((((bX.setCell ⟨bb, (a1 : Int).toNat * 6, none⟩ (.int .i64 bu)).setCell ⟨bb, (a1 : Int).toNat * 6 + 1, none⟩ (.bool bv)).setCell ⟨bb, (a1 : Int).toNat * 6 + 2, none⟩ (.int .i64 bw)).setCell ⟨bb, (a1 : Int).toNat * 6 + 3, none⟩ (.int .i64 bx)).setCell ⟨bb, (a1 : Int).toNat * 6 + 4, none⟩ (.int .i64 bz)).setCell ⟨bb, (a1 : Int).toNat * 6 + 5, none⟩ (.int .i64 bA)).heap[bP]? = some (.cells #[.slice (some bB) l0_0.length c0_0, .slice A0_1 l0_1.length c0_1] 27 (0, 0))) := ⟨by (with_reducible repeat (first | refine blk_drewN ?_ _ | refine blk_drew ?_ | refine blk_alloc ?_ _)); refine blk_far ?_ (by have h_ := Kd.R_ne bg.out ba.out (by decide); intro e_; exact h_ (by rw [e_]; rfl)) _; (with_reducible repeat (first | refine blk_drewN ?_ _ | refine blk_drew ?_ | refine blk_alloc ?_ _)); refine blk_far ?_ (by have h_ := Kd.R_ne bg.out ba.out (by decide); intro e_; exact h_ (by rw [e_]; rfl)) _; (with_reducible repeat (first | refine blk_drewN ?_ _ | refine blk_drew ?_ | refine blk_alloc ?_ _)); refine blk_far ?_ (by have h_ := Kd.R_ne bg.out ba.out (by decide); intro e_; exact h_ (by rw [e_]; rfl)) _; (with_reducible repeat (first | refine blk_drewN ?_ _ | refine blk_drew ?_ | refine blk_alloc ?_ _)); refine blk_far ?_ (by have h_ := Kd.R_ne bg.out ba.out (by decide); intro e_; exact h_ (by rw [e_]; rfl)) _; (with_reducible repeat (first | refine blk_drewN ?_ _ | refine blk_drew ?_ | refine blk_alloc ?_ _)); refine blk_far ?_ (by have h_ := Kd.R_ne bg.out ba.out (by decide); intro e_; exact h_ (by rw [e_]; rfl)) _; (with_reducible repeat (first | refine blk_drewN ?_ _ | refine blk_drew ?_ | refine blk_alloc ?_ _)); refine blk_far ?_ (by have h_ := Kd.R_ne bg.out ba.out (by decide); intro e_; exact h_ (by rw [e_]; rfl)) _; (with_reducible repeat (first | refine blk_drewN ?_ _ | refine blk_drew ?_ | refine blk_alloc ?_ _)); exact ba.out⟩; have bU : Aside0 (((((((bX.setCell ⟨bb, (a1 : Int).toNat * 6, none⟩ (.int .i64 bu)).setCell ⟨bb, (a1 : Int).toNat * 6 + 1, none⟩ (.bool bv)).setCell ⟨bb, (a1 : Int).toNat * 6 + 2, none⟩ (.int .i64 bw)).setCell ⟨bb, (a1 : Int).toNat * 6 + 3, none⟩ (.int .i64 bx)).setCell ⟨bb, (a1 : Int).toNat * 6 + 4, none⟩ (.int .i64 bz)).setCell ⟨bb, (a1 : Int).toNat * 6 + 5, none⟩ (.int .i64 bA)).heap[bE]? = some (.cells #[.slice none 0 0, .slice none 0 0] 27 (0, 0))) := ⟨by (with_reducible repeat (first | refine blk_drewN ?_ _ | refine blk_drew ?_ | refine blk_alloc ?_ _)); refine blk_far ?_ (by have h_ := Kd.R_ne bg.out bc.out (by decide); intro e_; exact h_ (by rw [e_]; rfl)) _; (with_reducible repeat (first | refine blk_drewN ?_ _ | refine blk_drew ?_ | refine blk_alloc ?_ _)); refine blk_far ?_ (by have h_ := Kd.R_ne bg.out bc.out (by decide); intro e_; exact h_ (by rw [e_]; rfl)) _; (with_reducible repeat (first | refine blk_drewN ?_ _ | refine blk_drew ?_ | refine blk_alloc ?_ _)); refine blk_far ?_ (by have h_ := Kd.R_ne bg.out bc.out (by decide); intro e_; exact h_ (by rw [e_]; rfl)) _; (with_reducible repeat (first | refine blk_drewN ?_ _ | refine blk_drew ?_ | refine blk_alloc ?_ _)); refine blk_far ?_ (by have h_ := Kd.R_ne bg.out bc.out (by decide); intro e_; exact h_ (by rw [e_]; rfl)) _; (with_reducible repeat (first | refine blk_drewN ?_ _ | refine blk_drew ?_ | refine blk_alloc ?_ _)); refine blk_far ?_ (by have h_ := Kd.R_ne bg.out bc.out (by decide); intro e_; exact h_ (by rw [e_]; rfl)) _; (with_reducible repeat (first | refine blk_drewN ?_ _ | refine blk_drew ?_ | refine blk_alloc ?_ _)); refine blk_far ?_ (by have h_ := Kd.R_ne bg.out bc.out (by decide); intro e_; exact h_ (by rw [e_]; rfl)) _; (with_reducible repeat (first | refine blk_drewN ?_ _ | refine blk_drew ?_ | refine blk_alloc ?_ _)); exact bc.out⟩; have bV : Aside0 (((((((bX.setCell ⟨bb, (a1 : Int).toNat * 6, none⟩ (.int .i64 bu)).setCell ⟨bb, (a1 : Int).toNat * 6 + 1, none⟩ (.bool bv)).setCell ⟨bb, (a1 : Int).toNat * 6 + 2, none⟩ (.int .i64 bw)).setCell ⟨bb, (a1 : Int).toNat * 6 + 3, none⟩ (.int .i64 bx)).setCell ⟨bb, (a1 : Int).toNat * 6 + 4, none⟩ (.int .i64 bz)).setCell ⟨bb, (a1 : Int).toNat * 6 + 5, none⟩ (.int .i64 bA)).heap[bk]? = some (.cells #[.slice (some ⟨bb, 0, none⟩) bf.length bp, .slice bq bj.length br] 27 (0, 0))) := ⟨by (with_reducible repeat (first | refine blk_drewN ?_ _ | refine blk_drew ?_ | refine blk_alloc ?_ _)); refine blk_far ?_ (by have h_ := Kd.R_ne bg.out bi.out (by decide); intro e_; exact h_ (by rw [e_]; rfl)) _; (with_reducible repeat (first | refine blk_drewN ?_ _ | refine blk_drew ?_ | refine blk_alloc ?_ _)); refine blk_far ?_ (by have h_ := Kd.R_ne bg.out bi.out (by decide); intro e_; exact h_ (by rw [e_]; rfl)) _; (with_reducible repeat (first | refine blk_drewN ?_ _ | refine blk_drew ?_ | refine blk_alloc ?_ _)); refine blk_far ?_ (by have h_ := Kd.R_ne bg.out bi.out (by decide); intro e_; exact h_ (by rw [e_]; rfl)) _; (with_reducible repeat (first | refine blk_drewN ?_ _ | refine blk_drew ?_ | refine blk_alloc ?_ _)); refine blk_far ?_ (by have h_ := Kd.R_ne bg.out bi.out (by decide); intro e_; exact h_ (by rw [e_]; rfl)) _; (with_reducible repeat (first | refine blk_drewN ?_ _ | refine blk_drew ?_ | refine blk_alloc ?_ _)); refine blk_far ?_ (by have h_ := Kd.R_ne bg.out bi.out (by decide); intro e_; exact h_ (by rw [e_]; rfl)) _; (with_reducible repeat (first | refine blk_drewN ?_ _ | refine blk_drew ?_ | refine blk_alloc ?_ _)); refine blk_far ?_ (by have h_ := Kd.R_ne bg.out bi.out (by decide); intro e_; exact h_ (by rw [e_]; rfl)) _; (with_reducible repeat (first | refine blk_drewN ?_ _ | refine blk_drew ?_ | refine blk_alloc ?_ _)); exact bi.out⟩; have bW : Aside0 (Below w.heap.size w ((((((bX.setCell ⟨bb, (a1 : Int).toNat * 6, none⟩ (.int .i64 bu)).setCell ⟨bb, (a1 : Int).toNat * 6 + 1, none⟩ (.bool bv)).setCell ⟨bb, (a1 : Int).toNat * 6 + 2, none⟩ (.int .i64 bw)).setCell ⟨bb, (a1 : Int).toNat * 6 + 3, none⟩ (.int .i64 bx)).setCell ⟨bb, (a1 : Int).toNat * 6 + 4, none⟩ (.int .i64 bz)).setCell ⟨bb, (a1 : Int).toNat * 6 + 5, none⟩ (.int .i64 bA))) := ⟨nbe HB⟩; (try clear bg); (try clear bm); (try clear ba); (try clear bc); (try clear bi); (try clear HB); generalize ((((((bX.setCell ⟨bb, (a1 : Int).toNat * 6, none⟩ (.int .i64 bu)).setCell ⟨bb, (a1 : Int).toNat * 6 + 1, none⟩ (.bool bv)).setCell ⟨bb, (a1 : Int).toNat * 6 + 2, none⟩ (.int .i64 bw)).setCell ⟨bb, (a1 : Int).toNat * 6 + 3, none⟩ (.int .i64 bx)).setCell ⟨bb, (a1 : Int).toNat * 6 + 4, none⟩ (.int .i64 bz)).setCell ⟨bb, (a1 : Int).toNat * 6 + 5, none⟩ (.int .i64 bA)) = gg at bR bS bT bU bV bW ⊢; have bg := bR; have bm := bS; have ba := bT; have bc := bU; have bi := bV; have HB := bW; clear bR bS bT bU bV bW; obtain ⟨gh, gi⟩ := c2e bi; obtain ⟨gj, gl⟩ := z2_ bi; obtain ⟨gm, gn⟩ := c2e bc; obtain ⟨gp, gq⟩ := z2_ bc
      try go_wp2
      refine bodyPost_ret (results_cell_row rfl _ _ bE 27 #[.slice (some ⟨bb, 0, none⟩) bf.length bp, .slice bq bj.length br] (0, 0) _ rfl (q2 bc) Try.underlying27 rfl (by kernel_rfl)) rfl ?_; exact ⟨_, _, er_, by (with_reducible repeat (first | apply Kd.R_alloc | apply Kd.R_drewN | apply Kd.R_drew)); exact Kd.R_mono (eR2_ (Kd.R_types bg.out bc.out (by decide))) (fun _ hk => trivial), by (with_reducible repeat (first | apply Kd.R_alloc | apply Kd.R_drewN | apply Kd.R_drew)); exact Kd.R_mono (eR2_ (Kd.R_types bm.out bc.out (by decide))) (fun _ hk => trivial), nbe HB⟩
     ·rw [if_neg c11] at H
      exact absurd H (by simp)
    ·rw [if_neg c9] at H
     exact absurd H (by simp)
   ·rw [if_neg c8] at H
    exact absurd H (by simp)
  ·replace c7 := Bool.eq_false_iff.mpr c7
   subst c7; have H1 : (some (bf, bj)) = some (r1, r2) := by rw [if_neg (show ¬ (false = true) by decide)] at H; exact H
   clear H; have H := H1; clear H1; simp only [Option.some.injEq, Prod.mk.injEq] at H; obtain ⟨rfl, rfl⟩ := H
   go_enter Try.func7, Try.ntmps7
   go_wp2_with (first | ((with_reducible refine gate_dst (N := 2) rfl ?_); refine bxe 2 #[.slice A0_0 l0_0.length c0_0, .slice A0_1 l0_1.length c0_1] 27 ?_; intro bP hg gr hbox hb; have ba := hbox; have dO := nge HB hg; have dP := nge HB hg; replace HB := nbs HB hb; clear hb hbox hg) | ((with_reducible refine gate_dst (N := 4) rfl ?_); refine bxe 4 #[.slice none 0 0, .slice none 0 0] 27 ?_; intro bE hg gs hbox hb; have bc := hbox; have dR := nge HB hg; have dS := nge HB hg; have b9 := nlt ba hg; have da := ngt ba hg; replace ba := nblk ba hb; replace HB := nbs HB hb; clear hb hbox hg; have gt := b9.out; have gu := da.out; obtain ⟨gv, gw⟩ := c2e ba; obtain ⟨gx, gy⟩ := z2_ ba) | ((with_reducible refine gate_callee (f := 12) rfl ?_); refine goesM (some 7) rfl rfl Try.func12 (by kernel_rfl) rfl #[.agg #[.slice A0_0 l0_0.length c0_0, .slice A0_1 l0_1.length c0_1]] rfl ?_; (with_reducible refine (impl_MemoryOk.calls k _ _ l0_0 _ _ l0_1 true _ ?side1 ?side2 ?side3 ?side4 A3.out).mono ?_); (case side1 => exact nCb bC HB); (case side2 => exact bL.out); (case side3 => exact nCb bM HB); (case side4 => exact bN.out); rintro e gz ⟨rfl, hb⟩; refine ⟨_, rfl, ?_⟩; replace ba := nblk ba hb; replace bc := nblk bc hb; replace HB := nbs HB hb; (try clear hb); obtain ⟨gA, gB⟩ := c2e ba; obtain ⟨gC, gD⟩ := z2_ ba) | ((with_reducible refine gate_callee (f := 26) rfl ?_); refine goesM (some 11) rfl rfl Try.func26 (by kernel_rfl) rfl #[.agg #[.slice A0_0 l0_0.length c0_0, .slice A0_1 l0_1.length c0_1]] rfl ?_; (with_reducible refine (impl_cloneMemory.calls _ _ l0_0 _ _ l0_1 bf bj _ ?side1 ?side2 ?side3 ?side4 A5.out).mono ?_); (case side1 => exact nCb bC HB); (case side2 => exact bL.out); (case side3 => exact nCb bM HB); (case side4 => exact bN.out); rintro e gE ⟨ef, eg, rfl, bH, db, hb⟩; refine ⟨_, rfl, ?_⟩; have bg := Aside0.mk (Kd.R_lower bH (bsz HB)); have bm := Aside0.mk (Kd.R_lower db (bsz HB)); replace ba := nblk ba hb; replace bc := nblk bc hb; replace HB := nbs HB hb; (try clear hb); (try clear bH); (try clear db)) | ((with_reducible refine gate_dst (N := 5) rfl ?_); refine bxe 5 #[.slice none 0 0, .slice none 0 0] 27 ?_; intro bk hg gF hbox hb; have bi := hbox; have eh := nge HB hg; have ei := nge HB hg; have dq := nlt ba hg; have dB := ngt ba hg; have dc := nlt bc hg; have dC := ngt bc hg; replace bg := nR bg hb; replace bm := nR bm hb; replace ba := nblk ba hb; replace bc := nblk bc hb; replace HB := nbs HB hb; clear hb hbox hg; obtain ⟨dj, dk, eo⟩ := Kd.R_slice bg.out; subst eo; have gG := dB.out; have gH := dq.out; have gI := dC.out; have gJ := dc.out; obtain ⟨gK, gL⟩ := c2e bi; obtain ⟨gM, gN⟩ := z2_ bi; obtain ⟨dl, dm, ep⟩ := Kd.R_slice bm.out; subst ep) | ((with_reducible refine gate_callee (f := 27) rfl ?_); refine goesM (some 13) rfl rfl Try.func27 (by kernel_rfl) rfl #[.int .i64 a1, .int .i64 0, .int .i64 23] rfl ?_; (with_reducible refine (impl_in.calls a1 0 23 false _ A6.out).mono ?_); rintro e w' ⟨rfl, ⟨nd, rfl⟩⟩; refine ⟨_, rfl, ?_⟩; obtain ⟨gO, gP⟩ := c2e bc; obtain ⟨gQ, gR⟩ := z2_ bc))
   refine bodyPost_ret (results_cell_row rfl _ _ bE 27 #[.slice dj bf.length dk, .slice dl bj.length dm] (0, 0) _ rfl (p2 bc (k2_ dc.out (nb bc))) Try.underlying27 rfl (by kernel_rfl)) rfl ?_; exact ⟨_, _, er_, by (with_reducible repeat (first | apply Kd.R_alloc | apply Kd.R_drewN | apply Kd.R_drew)); exact Kd.R_mono (Kd.R_far (p := ⟨bE, 1, none⟩) (Kd.R_far (p := ⟨bE, 0, none⟩) (Kd.R_far (p := ⟨bk, 1, none⟩) (Kd.R_far (p := ⟨bk, 0, none⟩) (Kd.R_types (Kd.R_types bg.out bi.out (by decide)) bc.out (by decide)) (fun _ hk => hk.1.2) (.slice dj bf.length dk)) (fun _ hk => hk.1.2) (.slice dl bj.length dm)) (fun _ hk => hk.2) (.slice dj bf.length dk)) (fun _ hk => hk.2) (.slice dl bj.length dm)) (fun _ hk => trivial), by (with_reducible repeat (first | apply Kd.R_alloc | apply Kd.R_drewN | apply Kd.R_drew)); exact Kd.R_mono (Kd.R_far (p := ⟨bE, 1, none⟩) (Kd.R_far (p := ⟨bE, 0, none⟩) (Kd.R_far (p := ⟨bk, 1, none⟩) (Kd.R_far (p := ⟨bk, 0, none⟩) (Kd.R_types (Kd.R_types bm.out bi.out (by decide)) bc.out (by decide)) (fun _ hk => hk.1.2) (.slice dj bf.length dk)) (fun _ hk => hk.1.2) (.slice dl bj.length dm)) (fun _ hk => hk.2) (.slice dj bf.length dk)) (fun _ hk => hk.2) (.slice dl bj.length dm)) (fun _ hk => trivial), nbe HB⟩
 ·replace c4 := Bool.eq_false_iff.mpr c4
  subst c4; have H1 : (some (([] : List (S36)), ([] : List Bool))) = some (r1, r2) := by rw [if_neg (show ¬ (false = true) by decide)] at H; exact H
  clear H; have H := H1; clear H1; simp only [Option.some.injEq, Prod.mk.injEq] at H; obtain ⟨rfl, rfl⟩ := H
  go_enter Try.func7, Try.ntmps7
  go_wp2_with (first | ((with_reducible refine gate_dst (N := 2) rfl ?_); refine bxe 2 #[.slice A0_0 l0_0.length c0_0, .slice A0_1 l0_1.length c0_1] 27 ?_; intro bP hg gS hbox hb; have ba := hbox; have dO := nge HB hg; have dP := nge HB hg; replace HB := nbs HB hb; clear hb hbox hg) | ((with_reducible refine gate_dst (N := 4) rfl ?_); refine bxe 4 #[.slice none 0 0, .slice none 0 0] 27 ?_; intro bE hg gT hbox hb; have bc := hbox; have dR := nge HB hg; have dS := nge HB hg; have b9 := nlt ba hg; have da := ngt ba hg; replace ba := nblk ba hb; replace HB := nbs HB hb; clear hb hbox hg; have gU := b9.out; have gV := da.out; obtain ⟨gW, gX⟩ := c2e ba; obtain ⟨gY, gZ⟩ := z2_ ba) | ((with_reducible refine gate_callee (f := 12) rfl ?_); refine goesM (some 7) rfl rfl Try.func12 (by kernel_rfl) rfl #[.agg #[.slice A0_0 l0_0.length c0_0, .slice A0_1 l0_1.length c0_1]] rfl ?_; (with_reducible refine (impl_MemoryOk.calls k _ _ l0_0 _ _ l0_1 false _ ?side1 ?side2 ?side3 ?side4 A3.out).mono ?_); (case side1 => exact nCb bC HB); (case side2 => exact bL.out); (case side3 => exact nCb bM HB); (case side4 => exact bN.out); rintro e g0 ⟨rfl, hb⟩; refine ⟨_, rfl, ?_⟩; replace ba := nblk ba hb; replace bc := nblk bc hb; replace HB := nbs HB hb; (try clear hb); obtain ⟨g1, g3⟩ := c2e bc; obtain ⟨g4, g5⟩ := z2_ bc))
  refine bodyPost_ret (results_cell_row rfl _ _ bE 27 #[.slice none 0 0, .slice none 0 0] (0, 0) _ rfl (q2 bc) Try.underlying27 rfl (by kernel_rfl)) rfl ?_; exact ⟨_, _, er_, by first | exact Kd.R_nil _ _ _ _ _ | exact Kd.N_nil _ _ _ _ _ | exact Kd.V_nil _ _ _ _ _ | exact Kd.Q_nil _ _ _ _ _ | exact Kd.S_nil _ _ _ _ _, by first | exact Kd.R_nil _ _ _ _ _ | exact Kd.N_nil _ _ _ _ _ | exact Kd.V_nil _ _ _ _ _ | exact Kd.Q_nil _ _ _ _ _ | exact Kd.S_nil _ _ _ _ _, nbe HB⟩

/-! ### spec_WordOk: function 36 -/
def spec_WordOk.f (k : Nat) (a0_0 : Int) (a0_1 : Bool) (a0_2 : Int) (a0_3 : Int) (a0_4 : Int) (a0_5 : Int) : Option (Bool) := (spec_l1In.f a0_0 0 65535).bind fun b7 => (if b7 = true then (if a0_1 = true then ((spec_KeyOk.f k a0_2 a0_3 a0_4 a0_5).bind fun bG => (if bG = true then (some true) else (some false))) else (some (a0_2 == 0 && (a0_3 == 0 && (a0_4 == 0 && (a0_5 == 0)))))) else (some false))
theorem spec_WordOk.mono : ∀ a0 a1 a2 a3 a4 a5 k, LeO (spec_WordOk.f k a0 a1 a2 a3 a4 a5) (spec_WordOk.f (k + 1) a0 a1 a2 a3 a4 a5) := by
 intro a0 a1 a2 a3 a4 a5 k
 unfold spec_WordOk.f
 repeat' first
   | (with_reducible exact spec_KeyOk.mono _ _ _ _ _)
   | (with_reducible exact LeO.refl _)
   | (with_reducible exact LeO.none _)
   | (with_reducible refine LeO.ite ?_ ?_)
   | (with_reducible refine LeO.bind ?_ (fun _ => ?_))
   | exact spec_KeyOk.mono _ _ _ _ _
   | exact LeO.none _
   | refine LeO.ite ?_ ?_
   | refine LeO.bind ?_ (fun _ => ?_)
set_option maxHeartbeats 8000000 in
set_option maxRecDepth 100000 in
theorem spec_WordOk.calls (k : Nat) (a0_0 : Int) (a0_1 : Bool) (a0_2 : Int) (a0_3 : Int) (a0_4 : Int) (a0_5 : Int) (r : Bool) (w : World) (h : spec_WordOk.f k a0_0 a0_1 a0_2 a0_3 a0_4 a0_5 = some r) :
  Calls Try.prog 36 #[.agg #[.int .i64 a0_0, .bool a0_1, .int .i64 a0_2, .int .i64 a0_3, .int .i64 a0_4, .int .i64 a0_5]] w fun e w' => e = .returned (.bool r) ∧ Below w.heap.size w w' := by
 have hu36 := Try.underlying36; have hu34 := Try.underlying34; have HB := Aside0.mk (Below.refl w.heap.size w); have H : ((spec_l1In.f a0_0 0 65535).bind fun b7 => (if b7 = true then (if a0_1 = true then ((spec_KeyOk.f k a0_2 a0_3 a0_4 a0_5).bind fun bG => (if bG = true then (some true) else (some false))) else (some (a0_2 == 0 && (a0_3 == 0 && (a0_4 == 0 && (a0_5 == 0)))))) else (some false))) = some r := h; clear h; replace H := Option.bind_eq_some_iff.mp H; obtain ⟨b7, A20, H⟩ := H; replace H : (if b7 = true then (if a0_1 = true then ((spec_KeyOk.f k a0_2 a0_3 a0_4 a0_5).bind fun bG => (if bG = true then (some true) else (some false))) else (some (a0_2 == 0 && (a0_3 == 0 && (a0_4 == 0 && (a0_5 == 0)))))) else (some false)) = some r := H; have A2 := Aside0.mk A20; clear A20
 by_cases c3 : b7 = true
 ·subst c3
  have H1 : (if a0_1 = true then ((spec_KeyOk.f k a0_2 a0_3 a0_4 a0_5).bind fun bG => (if bG = true then (some true) else (some false))) else (some (a0_2 == 0 && (a0_3 == 0 && (a0_4 == 0 && (a0_5 == 0)))))) = some r := by rw [if_pos rfl] at H; exact H
  clear H; have H := H1; clear H1
  by_cases c4 : a0_1 = true
  ·subst c4
   have H1 : ((spec_KeyOk.f k a0_2 a0_3 a0_4 a0_5).bind fun bG => (if bG = true then (some true) else (some false))) = some r := by rw [if_pos rfl] at H; exact H
   clear H; have H := H1; clear H1; replace H := Option.bind_eq_some_iff.mp H; obtain ⟨bG, A50, H⟩ := H; replace H : (if bG = true then (some true) else (some false)) = some r := H; have A5 := Aside0.mk A50; clear A50
   by_cases c6 : bG = true
   ·subst c6
    have H1 : (some true) = some r := by rw [if_pos rfl] at H; exact H
    clear H; have H := H1; clear H1; obtain rfl := Option.some.inj H
    go_enter Try.func36, Try.ntmps36
    go_wp2_with (first | ((with_reducible refine gate_dst (N := 1) rfl ?_); refine bxe 1 #[.int .i64 a0_0, .bool true, .int .i64 a0_2, .int .i64 a0_3, .int .i64 a0_4, .int .i64 a0_5] 36 ?_; intro dD hg w7 hbox hb; have bo := hbox; have dE := nge HB hg; have dF := nge HB hg; replace HB := nbs HB hb; clear hb hbox hg; obtain ⟨g6, g7, g8, g9, ha, hc⟩ := c6e bo; obtain ⟨hd, hf, hh, hj, hl, hm⟩ := z6_ bo) | ((with_reducible refine gate_callee (f := 29) rfl ?_); refine goesM (some 5) rfl rfl Try.func29 (by kernel_rfl) rfl #[.int .i64 a0_0, .int .i64 0, .int .i64 65535] rfl ?_; (with_reducible refine (spec_l1In.calls a0_0 0 65535 true _ A2.out).mono ?_); rintro e w' ⟨rfl, ⟨nd, rfl⟩⟩; refine ⟨_, rfl, ?_⟩) | (go_at_call 55; (with_reducible refine (spec_KeyOk.calls k a0_2 a0_3 a0_4 a0_5 true _ A5.out).mono ?_); rintro e w9 ⟨rfl, hb⟩; replace bo := nblk bo hb; replace HB := nbs HB hb; (try clear hb)))
    go_ret
    exact ⟨er_, nbe HB⟩
   ·replace c6 := Bool.eq_false_iff.mpr c6
    subst c6; have H1 : (some false) = some r := by rw [if_neg (show ¬ (false = true) by decide)] at H; exact H
    clear H; have H := H1; clear H1; obtain rfl := Option.some.inj H
    go_enter Try.func36, Try.ntmps36
    go_wp2_with (first | ((with_reducible refine gate_dst (N := 1) rfl ?_); refine bxe 1 #[.int .i64 a0_0, .bool true, .int .i64 a0_2, .int .i64 a0_3, .int .i64 a0_4, .int .i64 a0_5] 36 ?_; intro dD hg hn hbox hb; have bo := hbox; have dE := nge HB hg; have dF := nge HB hg; replace HB := nbs HB hb; clear hb hbox hg; obtain ⟨ho, hp, hq, hr, hs, ht⟩ := c6e bo; obtain ⟨hu, hv, hw, hx, hy, hz⟩ := z6_ bo) | ((with_reducible refine gate_callee (f := 29) rfl ?_); refine goesM (some 5) rfl rfl Try.func29 (by kernel_rfl) rfl #[.int .i64 a0_0, .int .i64 0, .int .i64 65535] rfl ?_; (with_reducible refine (spec_l1In.calls a0_0 0 65535 true _ A2.out).mono ?_); rintro e w' ⟨rfl, ⟨nd, rfl⟩⟩; refine ⟨_, rfl, ?_⟩) | (go_at_call 55; (with_reducible refine (spec_KeyOk.calls k a0_2 a0_3 a0_4 a0_5 false _ A5.out).mono ?_); rintro e hA ⟨rfl, hb⟩; replace bo := nblk bo hb; replace HB := nbs HB hb; (try clear hb); obtain ⟨er, es, hB, hC, hD, hE⟩ := c6e bo; obtain ⟨et, eu, hF, hG, hH, hI⟩ := z6_ bo))
    go_ret
    exact ⟨er_, nbe HB⟩
  ·replace c4 := Bool.eq_false_iff.mpr c4
   subst c4; have H1 : (some (a0_2 == 0 && (a0_3 == 0 && (a0_4 == 0 && (a0_5 == 0))))) = some r := by rw [if_neg (show ¬ (false = true) by decide)] at H; exact H
   clear H; have H := H1; clear H1; obtain rfl := Option.some.inj H
   go_enter Try.func36, Try.ntmps36
   go_wp2_with (first | ((with_reducible refine gate_dst (N := 1) rfl ?_); refine bxe 1 #[.int .i64 a0_0, .bool false, .int .i64 a0_2, .int .i64 a0_3, .int .i64 a0_4, .int .i64 a0_5] 36 ?_; intro dD hg dQ hbox hb; have bo := hbox; have dE := nge HB hg; have dF := nge HB hg; replace HB := nbs HB hb; clear hb hbox hg; obtain ⟨ev, ew, hJ, hL, hM, hN⟩ := c6e bo; obtain ⟨ex, ey, hO, hQ, hR, hS⟩ := z6_ bo) | ((with_reducible refine gate_callee (f := 29) rfl ?_); refine goesM (some 5) rfl rfl Try.func29 (by kernel_rfl) rfl #[.int .i64 a0_0, .int .i64 0, .int .i64 65535] rfl ?_; (with_reducible refine (spec_l1In.calls a0_0 0 65535 true _ A2.out).mono ?_); rintro e w' ⟨rfl, ⟨nd, rfl⟩⟩; refine ⟨_, rfl, ?_⟩))
   go_ret
   exact ⟨er_, nbe HB⟩
 ·replace c3 := Bool.eq_false_iff.mpr c3
  subst c3; have H1 : (some false) = some r := by rw [if_neg (show ¬ (false = true) by decide)] at H; exact H
  clear H; have H := H1; clear H1; obtain rfl := Option.some.inj H
  go_enter Try.func36, Try.ntmps36
  go_wp2_with (first | ((with_reducible refine gate_dst (N := 1) rfl ?_); refine bxe 1 #[.int .i64 a0_0, .bool a0_1, .int .i64 a0_2, .int .i64 a0_3, .int .i64 a0_4, .int .i64 a0_5] 36 ?_; intro dD hg ez hbox hb; have bo := hbox; have dE := nge HB hg; have dF := nge HB hg; replace HB := nbs HB hb; clear hb hbox hg; obtain ⟨hT, hU, hV, hW, hX, hY⟩ := c6e bo; obtain ⟨hZ, h0, h1, h2, h3, h4⟩ := z6_ bo) | ((with_reducible refine gate_callee (f := 29) rfl ?_); refine goesM (some 5) rfl rfl Try.func29 (by kernel_rfl) rfl #[.int .i64 a0_0, .int .i64 0, .int .i64 65535] rfl ?_; (with_reducible refine (spec_l1In.calls a0_0 0 65535 false _ A2.out).mono ?_); rintro e w' ⟨rfl, ⟨nd, rfl⟩⟩; refine ⟨_, rfl, ?_⟩))
  go_ret
  exact ⟨er_, nbe HB⟩

/-! ### spec_MemoryOk: function 13 -/
mutual
def spec_MemoryOk.j0 : Nat → Bool → List (S36) → List Bool → Option (Bool)
 | 0, _, _, _ => none
 | k + 1, eA, bJ, dG => if eA = true then (some false) else (spec_MemoryOk.l0 k 0 bJ dG)
def spec_MemoryOk.l0 : Nat → Int → List (S36) → List Bool → Option (Bool)
 | 0, _, _, _ => none
 | k + 1, x3, bJ, dG => if x3 < 24 then (if 0 ≤ x3 then (if x3 < (bJ.length : Int) then ((spec_WordOk.f k ((rd_T36 bJ x3).f0) ((rd_T36 bJ x3).f1) ((rd_T36 bJ x3).f2.f0) ((rd_T36 bJ x3).f2.f1) ((rd_T36 bJ x3).f2.f2) ((rd_T36 bJ x3).f2.f3)).bind fun dy => (if dy = true then (spec_MemoryOk.l0 k (wrap64 (x3 + 1)) bJ dG) else (some false))) else (none)) else (none)) else (some true)
end
def spec_MemoryOk.f (k : Nat) (l0_0 : List (S36)) (l0_1 : List Bool) : Option (Bool) := if (l0_0.length : Int) = 24 then (spec_MemoryOk.j0 k ((l0_1.length : Int) != 24) l0_0 l0_1) else (spec_MemoryOk.j0 k true l0_0 l0_1)
theorem spec_MemoryOk.mono_l : ∀ k, (∀ y0 y1 y2, LeO (spec_MemoryOk.j0 k y0 y1 y2) (spec_MemoryOk.j0 (k + 1) y0 y1 y2)) ∧ (∀ y0 y1 y2, LeO (spec_MemoryOk.l0 k y0 y1 y2) (spec_MemoryOk.l0 (k + 1) y0 y1 y2))
 | 0 => ⟨fun _ _ _ r h => by simp [spec_MemoryOk.j0] at h, fun _ _ _ r h => by simp [spec_MemoryOk.l0] at h⟩
 | k + 1 => by
  obtain ⟨ih0, ih1⟩ := spec_MemoryOk.mono_l k; refine ⟨?_, ?_⟩
  ·intro y0 y1 y2
   unfold spec_MemoryOk.j0
   repeat' first
   | (with_reducible exact ih0 _ _ _)
   | (with_reducible exact ih1 _ _ _)
   | (with_reducible exact spec_WordOk.mono _ _ _ _ _ _ _)
   | (with_reducible exact LeO.refl _)
   | (with_reducible exact LeO.none _)
   | (with_reducible refine LeO.ite ?_ ?_)
   | (with_reducible refine LeO.bind ?_ (fun _ => ?_))
   | exact ih0 _ _ _
   | exact ih1 _ _ _
   | exact spec_WordOk.mono _ _ _ _ _ _ _
   | exact LeO.none _
   | refine LeO.ite ?_ ?_
   | refine LeO.bind ?_ (fun _ => ?_)
  ·intro y0 y1 y2
   unfold spec_MemoryOk.l0
   repeat' first
   | (with_reducible exact ih0 _ _ _)
   | (with_reducible exact ih1 _ _ _)
   | (with_reducible exact spec_WordOk.mono _ _ _ _ _ _ _)
   | (with_reducible exact LeO.refl _)
   | (with_reducible exact LeO.none _)
   | (with_reducible refine LeO.ite ?_ ?_)
   | (with_reducible refine LeO.bind ?_ (fun _ => ?_))
   | exact ih0 _ _ _
   | exact ih1 _ _ _
   | exact spec_WordOk.mono _ _ _ _ _ _ _
   | exact LeO.none _
   | refine LeO.ite ?_ ?_
   | refine LeO.bind ?_ (fun _ => ?_)
theorem spec_MemoryOk.mono : ∀ a0 a1 k, LeO (spec_MemoryOk.f k a0 a1) (spec_MemoryOk.f (k + 1) a0 a1) := by
 intro a0 a1 k; obtain ⟨ih0, ih1⟩ := spec_MemoryOk.mono_l k
 unfold spec_MemoryOk.f
 repeat' first
   | (with_reducible exact ih0 _ _ _)
   | (with_reducible exact ih1 _ _ _)
   | (with_reducible exact spec_WordOk.mono _ _ _ _ _ _ _)
   | (with_reducible exact LeO.refl _)
   | (with_reducible exact LeO.none _)
   | (with_reducible refine LeO.ite ?_ ?_)
   | (with_reducible refine LeO.bind ?_ (fun _ => ?_))
   | exact ih0 _ _ _
   | exact ih1 _ _ _
   | exact spec_WordOk.mono _ _ _ _ _ _ _
   | exact LeO.none _
   | refine LeO.ite ?_ ?_
   | refine LeO.bind ?_ (fun _ => ?_)
set_option maxHeartbeats 8000000 in
set_option maxRecDepth 100000 in
theorem spec_MemoryOk.calls (k : Nat) (A0_0 : Option Addr) (c0_0 : Nat) (l0_0 : List (S36)) (A0_1 : Option Addr) (c0_1 : Nat) (l0_1 : List Bool) (r : Bool) (w : World) (hr0_0 : Kd.C k36 w A0_0 l0_0.length l0_0) (hc0_0 : l0_0.length ≤ c0_0) (hr0_1 : Kd.C Kd.bool w A0_1 l0_1.length l0_1) (hc0_1 : l0_1.length ≤ c0_1) (h : spec_MemoryOk.f k l0_0 l0_1 = some r) :
  Calls Try.prog 13 #[.agg #[.slice A0_0 l0_0.length c0_0, .slice A0_1 l0_1.length c0_1]] w fun e w' => e = .returned (.bool r) ∧ Below w.heap.size w w' := by
 have hu27 := Try.underlying27; have hu36 := Try.underlying36; have bC := Aside0.mk hr0_0; have bL := Aside0.mk hc0_0; clear hr0_0 hc0_0; have bM := Aside0.mk hr0_1; have bN := Aside0.mk hc0_1; clear hr0_1 hc0_1; have HB := Aside0.mk (Below.refl w.heap.size w); have H : (if (l0_0.length : Int) = 24 then (spec_MemoryOk.j0 k ((l0_1.length : Int) != 24) l0_0 l0_1) else (spec_MemoryOk.j0 k true l0_0 l0_1)) = some r := h; clear h; have dH := Aside0.mk H; clear H
 go_enter Try.func13, Try.ntmps13
 go_upto_region 1 with (first | ((with_reducible refine gate_dst (N := 1) rfl ?_); (try (refine gate_guard (by rfl) ?_; dsimp only)); refine bxe 1 #[.slice A0_0 l0_0.length c0_0, .slice A0_1 l0_1.length c0_1] 27 ?_; intro dZ hg w3 hbox hb; have bn := hbox; have h5 := nge HB hg; have h6 := nge HB hg; replace HB := nbs HB hb; clear hb hbox hg))
 (try simp only [Act.put, List.setIfInBounds_toArray, List.set_cons_zero, List.set_cons_succ])
 go_cut [13] (fun eB wc => ∃ (kq : Nat) (dz : Bool), eB = .bool dz ∧ Aside0 (spec_MemoryOk.j0 kq dz l0_0 l0_1 = some r) ∧ Aside0 (kq ≤ k) ∧ Aside0 (wc.heap[dZ]? = some (.cells #[(.slice A0_0 l0_0.length c0_0), (.slice A0_1 l0_1.length c0_1)] 27 (0, 0))) ∧ Aside0 (Below w.heap.size w wc))
 case first =>
  have H := dH.out; clear dH
  by_cases c4 : (l0_0.length : Int) = 24
  ·rw [if_pos c4] at H
   have c4b0 : ((l0_0.length : Int) == 24) = true := beq_iff_eq.mpr c4; have c4b1 : ((l0_0.length : Int) != 24) = false := bne_eq_false_iff_eq.mpr c4; clear c4; (first | rw [c4b0] | (simp only [i64_w, i32_w]; rw [c4b0]) | skip); have H' := Aside0.mk H; clear H; obtain ⟨d0, d1⟩ := c2e bn; obtain ⟨d2, d3⟩ := z2_ bn; go_wp2
   go_meet
   case rel => exact ⟨_, (((l0_1.length : Int) != 24)), (by first | rfl | (simp; done) | (simp [*]; done)), H', ⟨by first | omega | exact Nat.le_refl _⟩, ⟨nb bn⟩, ⟨nbe HB⟩⟩
  ·rw [if_neg c4] at H
   have c4b0 : ((l0_0.length : Int) == 24) = false := beq_eq_false_iff_ne.mpr c4; have c4b1 : ((l0_0.length : Int) != 24) = true := bne_iff_ne.mpr c4; (first | rw [c4b0] | (simp only [i64_w, i32_w]; rw [c4b0]) | skip); have H' := Aside0.mk H; clear H; obtain ⟨d4, d5⟩ := c2e bn; obtain ⟨d6, d7⟩ := z2_ bn; go_wp2
   go_meet
   case rel => exact ⟨_, (true), (by first | rfl | (simp; done) | (simp [*]; done)), H', ⟨by first | omega | exact Nat.le_refl _⟩, ⟨nb bn⟩, ⟨nbe HB⟩⟩
 case rest =>
  clear dH; try clear c1
  try clear p2
  try clear c4
  try clear c4b0
  try clear c4b1
  try clear d0
  try clear d1
  try clear d4
  try clear d5
  try clear d2
  try clear d3
  try clear d6
  try clear d7
  obtain ⟨kq, dz, rfl, HA, d8, bn, HB⟩ := hcut
  cases kq with
  | zero => exact absurd HA.out (by simp [spec_MemoryOk.j0])
  | succ kj1 =>
   have H := HA.out; clear HA; simp only [spec_MemoryOk.j0] at H
   by_cases c7 : dz = true
   ·subst c7
    have H1 : (some false) = some r := by rw [if_pos rfl] at H; exact H
    clear H; have H := H1; clear H1; obtain rfl := Option.some.inj H; go_wp2
    go_ret
    exact ⟨er_, nbe HB⟩
   ·replace c7 := Bool.eq_false_iff.mpr c7
    subst c7; have H1 : (spec_MemoryOk.l0 kj1 0 l0_0 l0_1) = some r := by rw [if_neg (show ¬ (false = true) by decide)] at H; exact H
    clear H; have H := H1; clear H1; have H' := Aside0.mk H; clear H; go_wp2
    go_loopg [3] kj1 (fun kq v3 w' => ∃ (bh : Int), v3 = .int .i64 bh ∧ Aside0 (spec_MemoryOk.l0 kq bh l0_0 l0_1 = some r) ∧ Aside0 (kq ≤ kj1) ∧ Aside0 (w'.heap[dZ]? = some (.cells #[(.slice A0_0 l0_0.length c0_0), (.slice A0_1 l0_1.length c0_1)] 27 (0, 0))) ∧ Aside0 (Below w.heap.size w w'))
    case atStart => exact ⟨(0), (by first | rfl | (simp; done) | (simp [*]; done)), H', ⟨Nat.le_refl _⟩, ⟨nb bn⟩, ⟨nbe HB⟩⟩
    case round =>
     clear H'; try clear c1
     try clear p2
     try clear c4
     try clear c4b0
     try clear c4b1
     try clear c7
     try clear d0
     try clear d1
     try clear d4
     try clear d5
     try clear d2
     try clear d3
     try clear d6
     try clear d7
     try clear p2
     obtain ⟨bh, rfl, HA, d9, bn, HB⟩ := hrel
     cases gk with
     | zero => exact absurd HA.out (by simp [spec_MemoryOk.l0])
     | succ k2 =>
      have H := HA.out; clear HA; simp only [spec_MemoryOk.l0] at H
      by_cases c8 : bh < 24
      ·rw [if_pos c8] at H
       have c8b0 : decide (bh < 24) = true := decide_eq_true c8; clear c8
       by_cases c9 : 0 ≤ bh
       ·rw [if_pos c9] at H
        have c9b0 : decide (0 ≤ bh) = true := decide_eq_true c9; clear c9
        by_cases c10 : bh < (l0_0.length : Int)
        ·rw [if_pos c10] at H
         have c10b0 : decide (bh < (l0_0.length : Int)) = true := decide_eq_true c10; clear c10; replace H := Option.bind_eq_some_iff.mp H; obtain ⟨dy, A110, H⟩ := H; replace H : (if dy = true then (spec_MemoryOk.l0 k2 (wrap64 (bh + 1)) l0_0 l0_1) else (some false)) = some r := H; have A11 := Aside0.mk A110; clear A110
         by_cases c12 : dy = true
         ·subst c12
          have H1 : (spec_MemoryOk.l0 k2 (wrap64 (bh + 1)) l0_0 l0_1) = some r := by rw [if_pos rfl] at H; exact H
          clear H; have H := H1; clear H1; have H' := Aside0.mk H; clear H; obtain ⟨er, es⟩ := c2e bn; obtain ⟨et, eu⟩ := z2_ bn; have p459 : 0 ≤ (bh : Int) := of_decide_eq_true (by first | (with_reducible assumption) | assumption); have q459 : bh < (l0_0.length : Int) := of_decide_eq_true (by first | (with_reducible assumption) | assumption); obtain ⟨eC, e459, b0, b1, b2, b3, b4, b5⟩ := at_T36 bC.out bh p459 q459
          cases e459
          replace b0 := (HB.out.cell (World.block_lt_of_cell? w _ b0)).trans b0; replace b1 := (HB.out.cell (World.block_lt_of_cell? w _ b1)).trans b1; replace b2 := (HB.out.cell (World.block_lt_of_cell? w _ b2)).trans b2; replace b3 := (HB.out.cell (World.block_lt_of_cell? w _ b3)).trans b3; replace b4 := (HB.out.cell (World.block_lt_of_cell? w _ b4)).trans b4; replace b5 := (HB.out.cell (World.block_lt_of_cell? w _ b5)).trans b5; replace p459 := eq_true p459; replace q459 := eq_true q459
          go_wp2_with (first | ((with_reducible refine gate_callee (f := 36) rfl ?_); refine goesM (some 23) rfl rfl Try.func36 (by kernel_rfl) rfl #[.agg #[.int .i64 ((rd_T36 l0_0 bh).f0), .bool ((rd_T36 l0_0 bh).f1), .int .i64 ((rd_T36 l0_0 bh).f2.f0), .int .i64 ((rd_T36 l0_0 bh).f2.f1), .int .i64 ((rd_T36 l0_0 bh).f2.f2), .int .i64 ((rd_T36 l0_0 bh).f2.f3)]] rfl ?_; (with_reducible refine (spec_WordOk.calls k2 ((rd_T36 l0_0 bh).f0) ((rd_T36 l0_0 bh).f1) ((rd_T36 l0_0 bh).f2.f0) ((rd_T36 l0_0 bh).f2.f1) ((rd_T36 l0_0 bh).f2.f2) ((rd_T36 l0_0 bh).f2.f3) true _ A11.out).mono ?_); rintro e dQ ⟨rfl, hb⟩; refine ⟨_, rfl, ?_⟩; replace bn := nblk bn hb; replace HB := nbs HB hb; (try clear hb)))
          go_roundg k2
          case measure => have := d8.out; have := d9.out; omega
          case rel => exact ⟨(wrap64 (bh + 1)), (by first | rfl | (simp; done) | (simp [*]; done)), H', ⟨by have := d8.out; have := d9.out; omega⟩, ⟨nb bn⟩, ⟨nbe HB⟩⟩
         ·replace c12 := Bool.eq_false_iff.mpr c12
          subst c12; have H1 : (some false) = some r := by rw [if_neg (show ¬ (false = true) by decide)] at H; exact H
          clear H; have H := H1; clear H1; obtain rfl := Option.some.inj H; obtain ⟨ev, ew⟩ := c2e bn; obtain ⟨ex, ey⟩ := z2_ bn; have p459 : 0 ≤ (bh : Int) := of_decide_eq_true (by first | (with_reducible assumption) | assumption); have q459 : bh < (l0_0.length : Int) := of_decide_eq_true (by first | (with_reducible assumption) | assumption); obtain ⟨eC, e459, b0, b1, b2, b3, b4, b5⟩ := at_T36 bC.out bh p459 q459
          cases e459
          replace b0 := (HB.out.cell (World.block_lt_of_cell? w _ b0)).trans b0; replace b1 := (HB.out.cell (World.block_lt_of_cell? w _ b1)).trans b1; replace b2 := (HB.out.cell (World.block_lt_of_cell? w _ b2)).trans b2; replace b3 := (HB.out.cell (World.block_lt_of_cell? w _ b3)).trans b3; replace b4 := (HB.out.cell (World.block_lt_of_cell? w _ b4)).trans b4; replace b5 := (HB.out.cell (World.block_lt_of_cell? w _ b5)).trans b5; replace p459 := eq_true p459; replace q459 := eq_true q459
          go_wp2_with (first | ((with_reducible refine gate_callee (f := 36) rfl ?_); refine goesM (some 23) rfl rfl Try.func36 (by kernel_rfl) rfl #[.agg #[.int .i64 ((rd_T36 l0_0 bh).f0), .bool ((rd_T36 l0_0 bh).f1), .int .i64 ((rd_T36 l0_0 bh).f2.f0), .int .i64 ((rd_T36 l0_0 bh).f2.f1), .int .i64 ((rd_T36 l0_0 bh).f2.f2), .int .i64 ((rd_T36 l0_0 bh).f2.f3)]] rfl ?_; (with_reducible refine (spec_WordOk.calls k2 ((rd_T36 l0_0 bh).f0) ((rd_T36 l0_0 bh).f1) ((rd_T36 l0_0 bh).f2.f0) ((rd_T36 l0_0 bh).f2.f1) ((rd_T36 l0_0 bh).f2.f2) ((rd_T36 l0_0 bh).f2.f3) false _ A11.out).mono ?_); rintro e ez ⟨rfl, hb⟩; refine ⟨_, rfl, ?_⟩; replace bn := nblk bn hb; replace HB := nbs HB hb; (try clear hb)))
          go_ret
          exact ⟨er_, nbe HB⟩
        ·rw [if_neg c10] at H
         exact absurd H (by simp)
       ·rw [if_neg c9] at H
        exact absurd H (by simp)
      ·rw [if_neg c8] at H
       have c8b0 : decide (bh < 24) = false := decide_eq_false c8; clear c8; obtain rfl := Option.some.inj H; go_wp2
       go_ret
       exact ⟨er_, nbe HB⟩

end Go.Proofs.Ytednioabjiabiaa.PFnFilter
