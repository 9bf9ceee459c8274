-- Written by a program of this session (wip/patch.py turns a copy of the kit's print): the functions that the law reaches, and their walks.
import Derived.Test.YtlblngbhffpfoaaPFnExactStateNewx0
import Derived.Test.YtlblngbhffpfoaaPFnExactStateNewx3
import Derived.Test.YtlblngbhffpfoaaPFnExactStateNewx4
import Derived.Test.YtlblngbhffpfoaaCFnExactStateNew
namespace Go.Proofs.Ytlblngbhffpfoaa.PFnExactStateNew
open Go.RowKit Go.Proofs.YtlblngbhffpfoaaW.PrintWords Go.Proofs.YtlblngbhffpfoaaW.PrintLast Go.Proofs.YtlblngbhffpfoaaW.PrintMore Go.Proofs.YtlblngbhffpfoaaW.Mine
attribute [local go_sem] max2_int min2_int max_two min_two max_three min_three max_four min_four   -- for this text's walks alone
set_option linter.unusedVariables false
set_option linter.unusedSimpArgs false

/-! ### impl_StateNew: function 34 -/
def impl_StateNew.f (k : Nat)  : Option ((List (S33)) × Int × Bool × Int × Int × Int × Int × (List (S33)) × List Bool × Int) := if 8 ≤ 5864062014805 then ((some (List.replicate 8 z33 : List (S33))).bind fun y210 => ((impl_MemoryNew.f).bind fun bt213 => ((impl_KeyWord.f k 0 24 59 0 0).bind fun bt220 => (if 0 < (y210.length : Int) then ((impl_KeyWord.f k 0 48 4 0 0).bind fun bt227 => (some ((y210.set (0 : Int).toNat (⟨bt220.1, bt220.2.1, (⟨bt220.2.2.1, bt220.2.2.2.1, bt220.2.2.2.2.1, bt220.2.2.2.2.2⟩ : S31)⟩ : S33)), bt227.1, bt227.2.1, bt227.2.2.1, bt227.2.2.2.1, bt227.2.2.2.2.1, bt227.2.2.2.2.2, bt213.1, bt213.2, 0))) else (none))))) else (none)
theorem impl_StateNew.mono : ∀ k, LeO (impl_StateNew.f k ) (impl_StateNew.f (k + 1) ) := by
 intro  k
 unfold impl_StateNew.f
 repeat' first
   | (with_reducible exact impl_KeyWord.mono _ _ _ _ _ _)
   | (with_reducible exact LeO.refl _)
   | (with_reducible exact LeO.none _)
   | (with_reducible refine LeO.ite ?_ ?_)
   | (with_reducible refine LeO.bind ?_ (fun _ => ?_))
   | exact impl_KeyWord.mono _ _ _ _ _ _
   | exact LeO.none _
   | refine LeO.ite ?_ ?_
   | refine LeO.bind ?_ (fun _ => ?_)
set_option maxHeartbeats 8000000 in
set_option maxRecDepth 100000 in
theorem impl_StateNew.calls (k : Nat)  (r1 : List (S33)) (r2 : Int) (r3 : Bool) (r4 : Int) (r5 : Int) (r6 : Int) (r7 : Int) (r8 : List (S33)) (r9 : List Bool) (r10 : Int) (w : World) (h : impl_StateNew.f k  = some (r1, r2, r3, r4, r5, r6, r7, r8, r9, r10)) :
  Calls Try.prog 34 #[] w fun e w' => ∃ v0_ v7_ v8_ : Value, e = .returned (.agg #[v0_, .int .i64 r2, .bool r3, .int .i64 r4, .int .i64 r5, .int .i64 r6, .int .i64 r7, v7_, v8_, .int .i64 r10]) ∧ Kd.R k33 33 w' w.heap.size (fun k_ => some k_ ≠ (v7_ : Value).ownBlock) v0_ r1 ∧ Kd.R k33 33 w' w.heap.size (fun k_ => some k_ ≠ (v0_ : Value).ownBlock) v7_ r8 ∧ Kd.R Kd.bool 4 w' w.heap.size (fun _ => True) v8_ r9 ∧ Below w.heap.size w w' := by
 have hu57 := Try.underlying57
 have hu31 := Try.underlying31
 have hu33 := Try.underlying33
 have HB := Aside0.mk (Below.refl w.heap.size w)
 have H : (if 8 ≤ 5864062014805 then ((some (List.replicate 8 z33 : List (S33))).bind fun y210 => ((impl_MemoryNew.f).bind fun bt213 => ((impl_KeyWord.f k 0 24 59 0 0).bind fun bt220 => (if 0 < (y210.length : Int) then ((impl_KeyWord.f k 0 48 4 0 0).bind fun bt227 => (some ((y210.set (0 : Int).toNat (⟨bt220.1, bt220.2.1, (⟨bt220.2.2.1, bt220.2.2.2.1, bt220.2.2.2.2.1, bt220.2.2.2.2.2⟩ : S31)⟩ : S33)), bt227.1, bt227.2.1, bt227.2.2.1, bt227.2.2.2.1, bt227.2.2.2.2.1, bt227.2.2.2.2.2, bt213.1, bt213.2, 0))) else (none))))) else (none)) = some (r1, r2, r3, r4, r5, r6, r7, r8, r9, r10) := h
 clear h
 by_cases c1 : 8 ≤ 5864062014805
 ·rw [if_pos c1] at H
  have c1b0 := eq_true c1
  have c1b1 : decide (8 ≤ 5864062014805) = true := decide_eq_true c1
  clear c1
  obtain ⟨y210, hy210⟩ : ∃ y_ : List (S33), y_ = (List.replicate 8 z33) := ⟨_, rfl⟩
  replace H : ((impl_MemoryNew.f).bind fun bt213 => ((impl_KeyWord.f k 0 24 59 0 0).bind fun bt220 => (if 0 < (y210.length : Int) then ((impl_KeyWord.f k 0 48 4 0 0).bind fun bt227 => (some ((y210.set (0 : Int).toNat (⟨bt220.1, bt220.2.1, (⟨bt220.2.2.1, bt220.2.2.2.1, bt220.2.2.2.2.1, bt220.2.2.2.2.2⟩ : S31)⟩ : S33)), bt227.1, bt227.2.1, bt227.2.2.1, bt227.2.2.2.1, bt227.2.2.2.2.1, bt227.2.2.2.2.2, bt213.1, bt213.2, 0))) else (none)))) = some (r1, r2, r3, r4, r5, r6, r7, r8, r9, r10) := by first | (rw [hy210]; with_reducible exact H) | (have H2_ := (Option.bind_some _ _).symm.trans H; rw [hy210]; with_reducible exact H2_) | (have H2_ := (Option.bind_some _ _).symm.trans H; with_reducible exact H2_) | with_reducible exact H | (rw [hy210]; exact H) | exact H
  have Ny210 := Aside0.mk hy210
  clear hy210
  replace H := Option.bind_eq_some_iff.mp H
  obtain ⟨⟨t213, t216⟩, A20, H⟩ := H
  replace H : ((impl_KeyWord.f k 0 24 59 0 0).bind fun bt220 => (if 0 < (y210.length : Int) then ((impl_KeyWord.f k 0 48 4 0 0).bind fun bt227 => (some ((y210.set (0 : Int).toNat (⟨bt220.1, bt220.2.1, (⟨bt220.2.2.1, bt220.2.2.2.1, bt220.2.2.2.2.1, bt220.2.2.2.2.2⟩ : S31)⟩ : S33)), bt227.1, bt227.2.1, bt227.2.2.1, bt227.2.2.2.1, bt227.2.2.2.2.1, bt227.2.2.2.2.2, t213, t216, 0))) else (none))) = some (r1, r2, r3, r4, r5, r6, r7, r8, r9, r10) := H
  have A2 := Aside0.mk A20
  clear A20
  replace H := Option.bind_eq_some_iff.mp H
  obtain ⟨⟨t220, t221, t222, t223, t224, t225⟩, A30, H⟩ := H
  replace H : (if 0 < (y210.length : Int) then ((impl_KeyWord.f k 0 48 4 0 0).bind fun bt227 => (some ((y210.set (0 : Int).toNat (⟨t220, t221, (⟨t222, t223, t224, t225⟩ : S31)⟩ : S33)), bt227.1, bt227.2.1, bt227.2.2.1, bt227.2.2.2.1, bt227.2.2.2.2.1, bt227.2.2.2.2.2, t213, t216, 0))) else (none)) = some (r1, r2, r3, r4, r5, r6, r7, r8, r9, r10) := H
  have A3 := Aside0.mk A30
  clear A30
  by_cases c4 : 0 < (y210.length : Int)
  ·rw [if_pos c4] at H
   have c4b0 : decide (0 < (y210.length : Int)) = true := decide_eq_true c4
   have c4b1 : decide (0 < y210.length) = true := decide_eq_true (by omega)
   clear c4
   obtain ⟨y226, hy226⟩ : ∃ y_ : List (S33), y_ = (y210.set (0 : Int).toNat (⟨t220, t221, (⟨t222, t223, t224, t225⟩ : S31)⟩ : S33)) := ⟨_, rfl⟩
   replace H : ((impl_KeyWord.f k 0 48 4 0 0).bind fun bt227 => (some (y226, bt227.1, bt227.2.1, bt227.2.2.1, bt227.2.2.2.1, bt227.2.2.2.2.1, bt227.2.2.2.2.2, t213, t216, 0))) = some (r1, r2, r3, r4, r5, r6, r7, r8, r9, r10) := by first | (rw [hy226]; with_reducible exact H) | (have H2_ := (Option.bind_some _ _).symm.trans H; rw [hy226]; with_reducible exact H2_) | (have H2_ := (Option.bind_some _ _).symm.trans H; with_reducible exact H2_) | with_reducible exact H | (rw [hy226]; exact H) | exact H
   have Ny226 := Aside0.mk hy226
   clear hy226
   replace H := Option.bind_eq_some_iff.mp H
   obtain ⟨⟨t227, t228, t229, t230, t231, t232⟩, A60, H⟩ := H
   replace H : (some (y226, t227, t228, t229, t230, t231, t232, t213, t216, 0)) = some (r1, r2, r3, r4, r5, r6, r7, r8, r9, r10) := H
   have A6 := Aside0.mk A60
   clear A60
   simp only [Option.some.injEq, Prod.mk.injEq] at H
   obtain ⟨rfl, rfl, rfl, rfl, rfl, rfl, rfl, rfl, rfl, rfl⟩ := H
   go_enter Try.func34, Try.ntmps34
   try go_wp2_with (first | ((with_reducible refine gate_dst (N := 0) rfl ?_); refine box_event ?hg (N := 0) ?hd (cs := #[.slice none 0 0, .int .i64 0, .bool false, .int .i64 0, .int .i64 0, .int .i64 0, .int .i64 0, .slice none 0 0, .slice none 0 0, .int .i64 0]) (t := 57) ?hr ?_; (case hd => rfl); (case hg => rfl); (case hr => first | (go_simp; done) | (go_simp; rfl)); intro gb209 hg w7 hbox hb; have n0_ := nbs HB hb; have n1_ := Aside0.mk (hbox); have n2_ := nge HB hg; have n3_ := nge HB hg; clear HB; have HB := n0_; have BK209 := n1_; have GW209 := n2_; have GE209 := n3_; clear n0_ n1_ n2_ n3_; clear hb hbox hg))
   have n0_ := Aside0.mk (blk_drew BK209.out)
   have n1_ := Aside0.mk (below_drew1 HB.out)
   clear BK209 HB
   have BK209 := n0_
   have HB := n1_
   clear n0_ n1_
   refine start_ (n := 5) (S := fun w' => True) (ds := []) #[false, false, false, false, false] (by kernel_rfl) rfl rfl trivial (fun hHeld => ?_)
   generalize w7.drew = w8 at BK209 HB hHeld ⊢
   refine join_ (σ := Value × Value × Value × Nat) 1 #[true, true, true, true, false] (fun s_ => [(2, s_.1), (3, .agg #[s_.2.1, s_.2.2.1]), (1, .pointer (some ⟨s_.2.2.2, 0, none⟩)), (4, .agg #[s_.1, .int .i64 0, .bool false, .int .i64 0, .int .i64 0, .int .i64 0, .int .i64 0, s_.2.1, s_.2.2.1, .int .i64 0])]) (fun s_ w' => (Kd.R k33 33 w' w.heap.size (fun k_ => some k_ ≠ (s_.2.1 : Value).ownBlock) s_.1 y210) ∧ (Kd.R k33 33 w' w.heap.size (fun k_ => some k_ ≠ (s_.1 : Value).ownBlock) s_.2.1 t213) ∧ (Kd.R Kd.bool 4 w' w.heap.size (fun _ => True) s_.2.2.1 t216) ∧ (w'.heap[gb209]? = some (.cells #[.slice none 0 0, .int .i64 0, .bool false, .int .i64 0, .int .i64 0, .int .i64 0, .int .i64 0, .slice none 0 0, .slice none 0 0, .int .i64 0] 57 (0, 0))) ∧ (w'.heap[s_.2.2.2]? = some (.cells #[.slice none 0 0, .int .i64 0, .bool false, .int .i64 0, .int .i64 0, .int .i64 0, .int .i64 0, .slice none 0 0, .slice none 0 0, .int .i64 0] 57 (0, 0))) ∧ (w.heap.size ≤ s_.2.2.2) ∧ (w.heap.size ≤ s_.2.2.2) ∧ (gb209 ≠ s_.2.2.2) ∧ (s_.2.2.2 ≠ gb209) ∧ (Below w.heap.size w w')) ?_ ?_
   rotate_left
   ·intro hJ0_1_3
    refine join_ (σ := Value × Value × Value) 2 #[true, true, true, false, false] (fun s_ => [(2, s_.1), (3, .agg #[s_.2.1, s_.2.2]), (4, .agg #[s_.1, .int .i64 0, .bool false, .int .i64 0, .int .i64 0, .int .i64 0, .int .i64 0, s_.2.1, s_.2.2, .int .i64 0])]) (fun s_ w' => (Kd.R k33 33 w' w.heap.size (fun k_ => some k_ ≠ (s_.2.1 : Value).ownBlock) s_.1 y210) ∧ (Kd.R k33 33 w' w.heap.size (fun k_ => some k_ ≠ (s_.1 : Value).ownBlock) s_.2.1 t213) ∧ (Kd.R Kd.bool 4 w' w.heap.size (fun _ => True) s_.2.2 t216) ∧ (w'.heap[gb209]? = some (.cells #[.slice none 0 0, .int .i64 0, .bool false, .int .i64 0, .int .i64 0, .int .i64 0, .int .i64 0, .slice none 0 0, .slice none 0 0, .int .i64 0] 57 (0, 0))) ∧ (Below w.heap.size w w')) ?_ ?_
    rotate_left
    ·intro hJ0_1
     refine join_ (σ := Value × Nat) 3 #[true, false, false, true, false] (fun s_ => [(2, s_.1), (1, .pointer (some ⟨s_.2, 0, none⟩))]) (fun s_ w' => (Kd.R k33 33 w' w.heap.size (fun _ => True) s_.1 y210) ∧ (w'.heap[gb209]? = some (.cells #[.slice none 0 0, .int .i64 0, .bool false, .int .i64 0, .int .i64 0, .int .i64 0, .int .i64 0, .slice none 0 0, .slice none 0 0, .int .i64 0] 57 (0, 0))) ∧ (w'.heap[s_.2]? = some (.cells #[.slice none 0 0, .int .i64 0, .bool false, .int .i64 0, .int .i64 0, .int .i64 0, .int .i64 0, .slice none 0 0, .slice none 0 0, .int .i64 0] 57 (0, 0))) ∧ (w.heap.size ≤ s_.2) ∧ (w.heap.size ≤ s_.2) ∧ (gb209 ≠ s_.2) ∧ (s_.2 ≠ gb209) ∧ (Below w.heap.size w w')) ?_ ?_
     rotate_left
     ·intro hJ0_3
      refine join_ (σ := Value × Value × Nat) 3 #[false, true, false, true, false] (fun s_ => [(3, .agg #[s_.1, s_.2.1]), (1, .pointer (some ⟨s_.2.2, 0, none⟩))]) (fun s_ w' => (Kd.R k33 33 w' w.heap.size (fun _ => True) s_.1 t213) ∧ (Kd.R Kd.bool 4 w' w.heap.size (fun _ => True) s_.2.1 t216) ∧ (w'.heap[gb209]? = some (.cells #[.slice none 0 0, .int .i64 0, .bool false, .int .i64 0, .int .i64 0, .int .i64 0, .int .i64 0, .slice none 0 0, .slice none 0 0, .int .i64 0] 57 (0, 0))) ∧ (w'.heap[s_.2.2]? = some (.cells #[.slice none 0 0, .int .i64 0, .bool false, .int .i64 0, .int .i64 0, .int .i64 0, .int .i64 0, .slice none 0 0, .slice none 0 0, .int .i64 0] 57 (0, 0))) ∧ (w.heap.size ≤ s_.2.2) ∧ (w.heap.size ≤ s_.2.2) ∧ (gb209 ≠ s_.2.2) ∧ (s_.2.2 ≠ gb209) ∧ (Below w.heap.size w w')) ?_ ?_
      rotate_left
      ·intro hJ1_3
       refine join_ (σ := Value) 4 #[true, false, false, false, false] (fun s_ => [(2, s_)]) (fun s_ w' => (Kd.R k33 33 w' w.heap.size (fun _ => True) s_ y210) ∧ (w'.heap[gb209]? = some (.cells #[.slice none 0 0, .int .i64 0, .bool false, .int .i64 0, .int .i64 0, .int .i64 0, .int .i64 0, .slice none 0 0, .slice none 0 0, .int .i64 0] 57 (0, 0))) ∧ (Below w.heap.size w w')) ?_ ?_
       rotate_left
       ·intro hJ0
        refine join_ (σ := Value × Value) 4 #[false, true, false, false, false] (fun s_ => [(3, .agg #[s_.1, s_.2])]) (fun s_ w' => (Kd.R k33 33 w' w.heap.size (fun _ => True) s_.1 t213) ∧ (Kd.R Kd.bool 4 w' w.heap.size (fun _ => True) s_.2 t216) ∧ (w'.heap[gb209]? = some (.cells #[.slice none 0 0, .int .i64 0, .bool false, .int .i64 0, .int .i64 0, .int .i64 0, .int .i64 0, .slice none 0 0, .slice none 0 0, .int .i64 0] 57 (0, 0))) ∧ (Below w.heap.size w w')) ?_ ?_
        rotate_left
        ·intro hJ1
         refine join_ (σ := Nat) 4 #[false, false, false, true, false] (fun s_ => [(1, .pointer (some ⟨s_, 0, none⟩))]) (fun s_ w' => (w'.heap[gb209]? = some (.cells #[.slice none 0 0, .int .i64 0, .bool false, .int .i64 0, .int .i64 0, .int .i64 0, .int .i64 0, .slice none 0 0, .slice none 0 0, .int .i64 0] 57 (0, 0))) ∧ (w'.heap[s_]? = some (.cells #[.slice none 0 0, .int .i64 0, .bool false, .int .i64 0, .int .i64 0, .int .i64 0, .int .i64 0, .slice none 0 0, .slice none 0 0, .int .i64 0] 57 (0, 0))) ∧ (w.heap.size ≤ s_) ∧ (w.heap.size ≤ s_) ∧ (gb209 ≠ s_) ∧ (s_ ≠ gb209) ∧ (Below w.heap.size w w')) ?_ ?_
         rotate_left
         ·intro hJ3
          refine three_ (i := 0) (j := 1) (k := 3) (Ni := some 2) (Nj := some 3) (Nk := some 1) #[true, false, false, false, false] #[false, true, false, false, false] #[false, false, false, true, false] rfl rfl rfl rfl rfl rfl (by kernel_rfl) (by decide) (by decide) (by decide) (fun K hK => ?_) (fun K hK => ?_) (fun K hK => ?_)
          ·skip
           refine Kd.R_make_step k33 _ 33 (by rfl) (N := 2) rfl 35 _ _ rfl 8 rfl rfl Try.underlying35 (.agg #[(.int .i64 0), (.bool false), (.int .i64 0), (.int .i64 0), (.int .i64 0), (.int .i64 0)]) 48 info33 rfl (by decide) (by omega) z33 (ok := fun _ => True) (okp := fun _ => True) (k33_mkM _ _ _ z33 ) (fun _ hk => hk) trivial (by omega) (by omega) (Below.refl _ _) (Nat.le_refl _) ?_
           intro v211 w9 ho10 hb hg_ hnew_
           clear hg_ hnew_
           (first | rw [← Ny210.out] at ho10 | (simp only [Int.reduceToNat] at ho10; rw [← Ny210.out] at ho10))
           have n0_ := Aside0.mk (Kd.R_lower ho10 (below_size (by repeat (first | (with_reducible first | exact HB.out | apply below_alloc | apply pw_below_drewN | apply below_drew1 | refine below_set ?_ GE209.out) | exact HB.out))))
           have n1_ := nblk BK209 hb
           have n2_ := nbs HB hb
           clear BK209 HB
           have HO212 := n0_
           have BK209 := n1_
           have HB := n2_
           clear n0_ n1_ n2_
           clear hb ho10
           refine hK.out _ _ trivial (fun hHeld => ?_)
           clear hK K
           refine norm_ (a' := ?_) ?_ ?_
           rotate_left
           ·show Act.put _ (some 2) _ = _
            simp only [Act.put, List.setIfInBounds_toArray, List.set_cons_zero, List.set_cons_succ, i64_w, i32_w]
            rfl
           exact norm_ (by first | (simp only [putAll, Act.put, List.setIfInBounds_toArray, List.set_cons_zero, List.set_cons_succ]; done) | (simp only [putAll, Act.put, List.setIfInBounds_toArray, List.set_cons_zero, List.set_cons_succ]; rfl)) (hJ0 (v211) _ ⟨(nRo HO212), (nb BK209), (by repeat (first | (with_reducible first | exact HB.out | apply below_alloc | apply pw_below_drewN | apply below_drew1 | refine below_set ?_ GE209.out) | exact HB.out))⟩)
          ·skip
           refine goesR Try.func20 (by kernel_rfl) rfl #[] (by rfl) rfl rfl ?_
           with_reducible refine (impl_MemoryNew.calls  t213 t216 _ A2.out).mono ?_
           rintro e w9 ⟨v214, v217, rfl, ho0, ho1, hb⟩
           refine ⟨_, rfl, ?_⟩
           have n0_ := Aside0.mk (Kd.R_lower ho0 (below_size (by repeat (first | (with_reducible first | exact HB.out | apply below_alloc | apply pw_below_drewN | apply below_drew1 | refine below_set ?_ GE209.out) | exact HB.out))))
           have n1_ := Aside0.mk (Kd.R_lower ho1 (below_size (by repeat (first | (with_reducible first | exact HB.out | apply below_alloc | apply pw_below_drewN | apply below_drew1 | refine below_set ?_ GE209.out) | exact HB.out))))
           have n2_ := nblk BK209 hb
           have n3_ := nbs HB hb
           clear BK209 HB
           have HO215 := n0_
           have HO218 := n1_
           have BK209 := n2_
           have HB := n3_
           clear n0_ n1_ n2_ n3_
           (try clear hb)
           (try clear ho0)
           (try clear ho1)
           refine hK.out _ _ trivial (fun hHeld => ?_)
           clear hK K
           refine norm_ (a' := ?_) ?_ ?_
           rotate_left
           ·show Act.put _ (some 3) _ = _
            simp only [Act.put, List.setIfInBounds_toArray, List.set_cons_zero, List.set_cons_succ, i64_w, i32_w]
            rfl
           exact norm_ (by first | (simp only [putAll, Act.put, List.setIfInBounds_toArray, List.set_cons_zero, List.set_cons_succ]; done) | (simp only [putAll, Act.put, List.setIfInBounds_toArray, List.set_cons_zero, List.set_cons_succ]; rfl)) (hJ1 (v214, v217) _ ⟨(nRo HO215), (nRo HO218), (nb BK209), (by repeat (first | (with_reducible first | exact HB.out | apply below_alloc | apply pw_below_drewN | apply below_drew1 | refine below_set ?_ GE209.out) | exact HB.out))⟩)
          ·skip
           refine box_step ?hg (N := 1) ?hd (cs := #[.slice none 0 0, .int .i64 0, .bool false, .int .i64 0, .int .i64 0, .int .i64 0, .int .i64 0, .slice none 0 0, .slice none 0 0, .int .i64 0]) (t := 57) ?hr ?_; (case hd => rfl); (case hg => rfl); (case hr => first | (go_simp; done) | (go_simp; rfl))
           intro gb219 hg w9 hbox hb
           have n0_ := nblk BK209 hb
           have n1_ := nbs HB hb
           have n2_ := Aside0.mk (hbox)
           have n3_ := nge HB hg
           have n4_ := nge HB hg
           have n5_ := nlt BK209 hg
           have n6_ := ngt BK209 hg
           clear BK209 HB
           have BK209 := n0_
           have HB := n1_
           have BK219 := n2_
           have GW219 := n3_
           have GE219 := n4_
           have NB209_219 := n5_
           have NB219_209 := n6_
           clear n0_ n1_ n2_ n3_ n4_ n5_ n6_
           clear hb hbox hg
           refine hK.out _ _ trivial (fun hHeld => ?_)
           clear hK K
           refine norm_ (a' := ?_) ?_ ?_
           rotate_left
           ·show Act.put _ (some 1) _ = _
            simp only [Act.put, List.setIfInBounds_toArray, List.set_cons_zero, List.set_cons_succ, i64_w, i32_w]
            rfl
           exact norm_ (by first | (simp only [putAll, Act.put, List.setIfInBounds_toArray, List.set_cons_zero, List.set_cons_succ]; done) | (simp only [putAll, Act.put, List.setIfInBounds_toArray, List.set_cons_zero, List.set_cons_succ]; rfl)) (hJ3 (gb219) _ ⟨(nb BK209), (nb BK219), GW219.out, GE219.out, NB209_219.out, NB219_209.out, (by repeat (first | (with_reducible first | exact HB.out | apply below_alloc | apply pw_below_drewN | apply below_drew1 | refine below_set ?_ GE209.out | refine below_set ?_ GE219.out) | exact HB.out))⟩)
         ·skip
          rintro gb219 w10 ⟨h0_, h1_, h2_, h3_, h4_, h5_, h6_⟩
          have n0_ : Aside0 (w10.heap[gb209]? = some (.cells #[.slice none 0 0, .int .i64 0, .bool false, .int .i64 0, .int .i64 0, .int .i64 0, .int .i64 0, .slice none 0 0, .slice none 0 0, .int .i64 0] 57 (0, 0))) := ⟨h0_⟩
          have n1_ : Aside0 (w10.heap[gb219]? = some (.cells #[.slice none 0 0, .int .i64 0, .bool false, .int .i64 0, .int .i64 0, .int .i64 0, .int .i64 0, .slice none 0 0, .slice none 0 0, .int .i64 0] 57 (0, 0))) := ⟨h1_⟩
          have n2_ : Aside0 (w.heap.size ≤ gb219) := ⟨h2_⟩
          have n3_ : Aside0 (w.heap.size ≤ gb219) := ⟨h3_⟩
          have n4_ : Aside0 (gb209 ≠ gb219) := ⟨h4_⟩
          have n5_ : Aside0 (gb219 ≠ gb209) := ⟨h5_⟩
          have n6_ : Aside0 (Below w.heap.size w w10) := ⟨h6_⟩
          clear BK209 HB
          clear h0_ h1_ h2_ h3_ h4_ h5_ h6_
          have BK209 := n0_
          have BK219 := n1_
          have GW219 := n2_
          have GE219 := n3_
          have NB209_219 := n4_
          have NB219_209 := n5_
          have HB := n6_
          clear n0_ n1_ n2_ n3_ n4_ n5_ n6_
          have hHeld := trivial
          refine norm_ (a' := ?_) ?_ ?_
          rotate_left
          ·simp only [putAll, Act.put, List.setIfInBounds_toArray, List.set_cons_zero, List.set_cons_succ]
           rfl
          refine two_ (i := 0) (j := 1) (Ni := some 2) (Nj := some 3) #[true, false, false, true, false] #[false, true, false, true, false] rfl rfl rfl rfl (by kernel_rfl) (by decide) (by decide) (fun K hK => ?_) (fun K hK => ?_)
          ·skip
           refine Kd.R_make_step k33 _ 33 (by rfl) (N := 2) rfl 35 _ _ rfl 8 rfl rfl Try.underlying35 (.agg #[(.int .i64 0), (.bool false), (.int .i64 0), (.int .i64 0), (.int .i64 0), (.int .i64 0)]) 48 info33 rfl (by decide) (by omega) z33 (ok := fun _ => True) (okp := fun _ => True) (k33_mkM _ _ _ z33 ) (fun _ hk => hk) trivial (by omega) (by omega) (Below.refl _ _) (Nat.le_refl _) ?_
           intro v211 w11 ho12 hb hg_ hnew_
           clear hg_ hnew_
           (first | rw [← Ny210.out] at ho12 | (simp only [Int.reduceToNat] at ho12; rw [← Ny210.out] at ho12))
           have n0_ := Aside0.mk (Kd.R_lower ho12 (below_size (by repeat (first | (with_reducible first | exact HB.out | apply below_alloc | apply pw_below_drewN | apply below_drew1 | refine below_set ?_ GE209.out | refine below_set ?_ GE219.out) | exact HB.out))))
           have n1_ := nblk BK209 hb
           have n2_ := nblk BK219 hb
           have n3_ := nbs HB hb
           clear BK209 BK219 HB
           have HO212 := n0_
           have BK209 := n1_
           have BK219 := n2_
           have HB := n3_
           clear n0_ n1_ n2_ n3_
           clear hb ho12
           refine hK.out _ _ trivial (fun hHeld => ?_)
           clear hK K
           refine norm_ (a' := ?_) ?_ ?_
           rotate_left
           ·show Act.put _ (some 2) _ = _
            simp only [Act.put, List.setIfInBounds_toArray, List.set_cons_zero, List.set_cons_succ, i64_w, i32_w]
            rfl
           exact norm_ (by first | (simp only [putAll, Act.put, List.setIfInBounds_toArray, List.set_cons_zero, List.set_cons_succ]; done) | (simp only [putAll, Act.put, List.setIfInBounds_toArray, List.set_cons_zero, List.set_cons_succ]; rfl)) (hJ0_3 (v211, gb219) _ ⟨(nRo HO212), (nb BK209), (nb BK219), GW219.out, GE219.out, NB209_219.out, NB219_209.out, (by repeat (first | (with_reducible first | exact HB.out | apply below_alloc | apply pw_below_drewN | apply below_drew1 | refine below_set ?_ GE209.out | refine below_set ?_ GE219.out) | exact HB.out))⟩)
          ·skip
           refine goesR Try.func20 (by kernel_rfl) rfl #[] (by rfl) rfl rfl ?_
           with_reducible refine (impl_MemoryNew.calls  t213 t216 _ A2.out).mono ?_
           rintro e w11 ⟨v214, v217, rfl, ho0, ho1, hb⟩
           refine ⟨_, rfl, ?_⟩
           have n0_ := Aside0.mk (Kd.R_lower ho0 (below_size (by repeat (first | (with_reducible first | exact HB.out | apply below_alloc | apply pw_below_drewN | apply below_drew1 | refine below_set ?_ GE209.out | refine below_set ?_ GE219.out) | exact HB.out))))
           have n1_ := Aside0.mk (Kd.R_lower ho1 (below_size (by repeat (first | (with_reducible first | exact HB.out | apply below_alloc | apply pw_below_drewN | apply below_drew1 | refine below_set ?_ GE209.out | refine below_set ?_ GE219.out) | exact HB.out))))
           have n2_ := nblk BK209 hb
           have n3_ := nblk BK219 hb
           have n4_ := nbs HB hb
           clear BK209 BK219 HB
           have HO215 := n0_
           have HO218 := n1_
           have BK209 := n2_
           have BK219 := n3_
           have HB := n4_
           clear n0_ n1_ n2_ n3_ n4_
           (try clear hb)
           (try clear ho0)
           (try clear ho1)
           refine hK.out _ _ trivial (fun hHeld => ?_)
           clear hK K
           refine norm_ (a' := ?_) ?_ ?_
           rotate_left
           ·show Act.put _ (some 3) _ = _
            simp only [Act.put, List.setIfInBounds_toArray, List.set_cons_zero, List.set_cons_succ, i64_w, i32_w]
            rfl
           exact norm_ (by first | (simp only [putAll, Act.put, List.setIfInBounds_toArray, List.set_cons_zero, List.set_cons_succ]; done) | (simp only [putAll, Act.put, List.setIfInBounds_toArray, List.set_cons_zero, List.set_cons_succ]; rfl)) (hJ1_3 (v214, v217, gb219) _ ⟨(nRo HO215), (nRo HO218), (nb BK209), (nb BK219), GW219.out, GE219.out, NB209_219.out, NB219_209.out, (by repeat (first | (with_reducible first | exact HB.out | apply below_alloc | apply pw_below_drewN | apply below_drew1 | refine below_set ?_ GE209.out | refine below_set ?_ GE219.out) | exact HB.out))⟩)
        ·skip
         rintro ⟨v214, v217⟩ w10 ⟨h0_, h1_, h2_, h3_⟩
         have n0_ : Aside0 (Kd.R k33 33 w10 w.heap.size (fun _ => True) v214 t213) := ⟨h0_⟩
         have n1_ : Aside0 (Kd.R Kd.bool 4 w10 w.heap.size (fun _ => True) v217 t216) := ⟨h1_⟩
         have n2_ : Aside0 (w10.heap[gb209]? = some (.cells #[.slice none 0 0, .int .i64 0, .bool false, .int .i64 0, .int .i64 0, .int .i64 0, .int .i64 0, .slice none 0 0, .slice none 0 0, .int .i64 0] 57 (0, 0))) := ⟨h2_⟩
         have n3_ : Aside0 (Below w.heap.size w w10) := ⟨h3_⟩
         clear BK209 HB
         clear h0_ h1_ h2_ h3_
         have HO215 := n0_
         have HO218 := n1_
         have BK209 := n2_
         have HB := n3_
         clear n0_ n1_ n2_ n3_
         have hHeld := trivial
         refine norm_ (a' := ?_) ?_ ?_
         rotate_left
         ·simp only [putAll, Act.put, List.setIfInBounds_toArray, List.set_cons_zero, List.set_cons_succ]
          rfl
         refine two_ (i := 0) (j := 3) (Ni := some 2) (Nj := some 1) #[true, true, false, false, false] #[false, true, false, true, false] rfl rfl rfl rfl (by kernel_rfl) (by decide) (by decide) (fun K hK => ?_) (fun K hK => ?_)
         ·skip
          refine Kd.R_make_step k33 _ 33 (by rfl) (N := 2) rfl 35 _ _ rfl 8 rfl rfl Try.underlying35 (.agg #[(.int .i64 0), (.bool false), (.int .i64 0), (.int .i64 0), (.int .i64 0), (.int .i64 0)]) 48 info33 rfl (by decide) (by omega) z33 (ok := fun _ => True) (okp := fun _ => True) (k33_mkM _ _ _ z33 ) (fun _ hk => hk) trivial (by omega) (by omega) (Below.refl _ _) (Nat.le_refl _) ?_
          intro v211 w11 ho12 hb hg_ hnew_
          clear hg_ hnew_
          (first | rw [← Ny210.out] at ho12 | (simp only [Int.reduceToNat] at ho12; rw [← Ny210.out] at ho12))
          have n0_ := Aside0.mk (Kd.R_elder' (nRo HO215) (Kd.R_base ho12) hb)
          have n1_ := nR HO218 hb
          have n2_ := Aside0.mk (Kd.R_lower (Kd.R_new' ho12 (Kd.R_lt (nRo HO215))) (below_size (by repeat (first | (with_reducible first | exact HB.out | apply below_alloc | apply pw_below_drewN | apply below_drew1 | refine below_set ?_ GE209.out) | exact HB.out))))
          have n3_ := nblk BK209 hb
          have n4_ := nbs HB hb
          clear HO215 HO218 BK209 HB
          have HO215 := n0_
          have HO218 := n1_
          have HO212 := n2_
          have BK209 := n3_
          have HB := n4_
          clear n0_ n1_ n2_ n3_ n4_
          clear hb ho12
          obtain ⟨Ao13, co13, eo13⟩ := Kd.R_slice HO218.out
          (first | subst eo13 | (injection eo13 with f1_ f2_ f3_; have f4_ := f1_.symm; have f5_ := f3_.symm; clear f1_ f2_ f3_; subst f4_; subst f5_))
          obtain ⟨Ao14, co14, eo14⟩ := Kd.R_slice HO215.out
          (first | subst eo14 | (injection eo14 with f1_ f2_ f3_; have f4_ := f1_.symm; have f5_ := f3_.symm; clear f1_ f2_ f3_; subst f4_; subst f5_))
          obtain ⟨Ao15, co15, eo15⟩ := Kd.R_slice HO212.out
          (first | subst eo15 | (injection eo15 with f1_ f2_ f3_; have f4_ := f1_.symm; have f5_ := f3_.symm; clear f1_ f2_ f3_; subst f4_; subst f5_))
          refine hK.out _ _ trivial (fun hHeld => ?_)
          clear hK K
          refine norm_ (a' := ?_) ?_ ?_
          rotate_left
          ·show Act.put _ (some 2) _ = _
           simp only [Act.put, List.setIfInBounds_toArray, List.set_cons_zero, List.set_cons_succ, i64_w, i32_w]
           rfl
          refine pure_ (i := 2) (N := some 4) (v := ?_) (a' := ?_) #[true, true, true, false, false] rfl rfl (by kernel_rfl) (fun _ _ _ h => h) (Or.inl ⟨by rfl, ?_⟩) ?_ ?_
          rotate_left
          ·intro w'
           go_simp
           with_reducible rfl
          rotate_left
          ·simp only [Act.put, List.setIfInBounds_toArray, List.set_cons_zero, List.set_cons_succ, i64_w, i32_w]
           rfl
          exact norm_ (by first | (simp only [putAll, Act.put, List.setIfInBounds_toArray, List.set_cons_zero, List.set_cons_succ]; done) | (simp only [putAll, Act.put, List.setIfInBounds_toArray, List.set_cons_zero, List.set_cons_succ]; rfl)) (hJ0_1 (.slice Ao15 y210.length co15, .slice Ao14 t213.length co14, .slice Ao13 t216.length co13) _ ⟨(by (with_reducible repeat (first | apply Kd.R_alloc | apply Kd.R_drewN | apply Kd.R_drew)); exact Kd.R_mono HO212.out (fun _ hk => hk.2)), (by (with_reducible repeat (first | apply Kd.R_alloc | apply Kd.R_drewN | apply Kd.R_drew)); exact Kd.R_mono HO215.out (fun _ hk => hk.2)), (nRo HO218), (nb BK209), (by repeat (first | (with_reducible first | exact HB.out | apply below_alloc | apply pw_below_drewN | apply below_drew1 | refine below_set ?_ GE209.out) | exact HB.out))⟩)
         ·skip
          refine box_step ?hg (N := 1) ?hd (cs := #[.slice none 0 0, .int .i64 0, .bool false, .int .i64 0, .int .i64 0, .int .i64 0, .int .i64 0, .slice none 0 0, .slice none 0 0, .int .i64 0]) (t := 57) ?hr ?_; (case hd => rfl); (case hg => rfl); (case hr => first | (go_simp; done) | (go_simp; rfl))
          intro gb219 hg w11 hbox hb
          have n0_ := nR HO215 hb
          have n1_ := nR HO218 hb
          have n2_ := nblk BK209 hb
          have n3_ := nbs HB hb
          have n4_ := Aside0.mk (hbox)
          have n5_ := nge HB hg
          have n6_ := nge HB hg
          have n7_ := nlt BK209 hg
          have n8_ := ngt BK209 hg
          clear HO215 HO218 BK209 HB
          have HO215 := n0_
          have HO218 := n1_
          have BK209 := n2_
          have HB := n3_
          have BK219 := n4_
          have GW219 := n5_
          have GE219 := n6_
          have NB209_219 := n7_
          have NB219_209 := n8_
          clear n0_ n1_ n2_ n3_ n4_ n5_ n6_ n7_ n8_
          clear hb hbox hg
          refine hK.out _ _ trivial (fun hHeld => ?_)
          clear hK K
          refine norm_ (a' := ?_) ?_ ?_
          rotate_left
          ·show Act.put _ (some 1) _ = _
           simp only [Act.put, List.setIfInBounds_toArray, List.set_cons_zero, List.set_cons_succ, i64_w, i32_w]
           rfl
          exact norm_ (by first | (simp only [putAll, Act.put, List.setIfInBounds_toArray, List.set_cons_zero, List.set_cons_succ]; done) | (simp only [putAll, Act.put, List.setIfInBounds_toArray, List.set_cons_zero, List.set_cons_succ]; rfl)) (hJ1_3 (v214, v217, gb219) _ ⟨(nRo HO215), (nRo HO218), (nb BK209), (nb BK219), GW219.out, GE219.out, NB209_219.out, NB219_209.out, (by repeat (first | (with_reducible first | exact HB.out | apply below_alloc | apply pw_below_drewN | apply below_drew1 | refine below_set ?_ GE209.out | refine below_set ?_ GE219.out) | exact HB.out))⟩)
       ·skip
        rintro v211 w11 ⟨h0_, h1_, h2_⟩
        have n0_ : Aside0 (Kd.R k33 33 w11 w.heap.size (fun _ => True) v211 y210) := ⟨h0_⟩
        have n1_ : Aside0 (w11.heap[gb209]? = some (.cells #[.slice none 0 0, .int .i64 0, .bool false, .int .i64 0, .int .i64 0, .int .i64 0, .int .i64 0, .slice none 0 0, .slice none 0 0, .int .i64 0] 57 (0, 0))) := ⟨h1_⟩
        have n2_ : Aside0 (Below w.heap.size w w11) := ⟨h2_⟩
        clear BK209 HB
        clear h0_ h1_ h2_
        have HO212 := n0_
        have BK209 := n1_
        have HB := n2_
        clear n0_ n1_ n2_
        have hHeld := trivial
        refine norm_ (a' := ?_) ?_ ?_
        rotate_left
        ·simp only [putAll, Act.put, List.setIfInBounds_toArray, List.set_cons_zero, List.set_cons_succ]
         rfl
        refine two_ (i := 1) (j := 3) (Ni := some 3) (Nj := some 1) #[true, true, false, false, false] #[true, false, false, true, false] rfl rfl rfl rfl (by kernel_rfl) (by decide) (by decide) (fun K hK => ?_) (fun K hK => ?_)
        ·skip
         refine goesR Try.func20 (by kernel_rfl) rfl #[] (by rfl) rfl rfl ?_
         with_reducible refine (impl_MemoryNew.calls  t213 t216 _ A2.out).mono ?_
         rintro e w12 ⟨v214, v217, rfl, ho0, ho1, hb⟩
         refine ⟨_, rfl, ?_⟩
         have n0_ := Aside0.mk (Kd.R_elder' (nRo HO212) (Kd.R_base ho0) hb)
         have n1_ := Aside0.mk (Kd.R_lower (Kd.R_new' ho0 (Kd.R_lt (nRo HO212))) (below_size (by repeat (first | (with_reducible first | exact HB.out | apply below_alloc | apply pw_below_drewN | apply below_drew1 | refine below_set ?_ GE209.out) | exact HB.out))))
         have n2_ := Aside0.mk (Kd.R_lower ho1 (below_size (by repeat (first | (with_reducible first | exact HB.out | apply below_alloc | apply pw_below_drewN | apply below_drew1 | refine below_set ?_ GE209.out) | exact HB.out))))
         have n3_ := nblk BK209 hb
         have n4_ := nbs HB hb
         clear HO212 BK209 HB
         have HO212 := n0_
         have HO215 := n1_
         have HO218 := n2_
         have BK209 := n3_
         have HB := n4_
         clear n0_ n1_ n2_ n3_ n4_
         (try clear hb)
         (try clear ho0)
         (try clear ho1)
         obtain ⟨Ao13, co13, eo13⟩ := Kd.R_slice HO218.out
         (first | subst eo13 | (injection eo13 with f1_ f2_ f3_; have f4_ := f1_.symm; have f5_ := f3_.symm; clear f1_ f2_ f3_; subst f4_; subst f5_))
         obtain ⟨Ao14, co14, eo14⟩ := Kd.R_slice HO215.out
         (first | subst eo14 | (injection eo14 with f1_ f2_ f3_; have f4_ := f1_.symm; have f5_ := f3_.symm; clear f1_ f2_ f3_; subst f4_; subst f5_))
         obtain ⟨Ao15, co15, eo15⟩ := Kd.R_slice HO212.out
         (first | subst eo15 | (injection eo15 with f1_ f2_ f3_; have f4_ := f1_.symm; have f5_ := f3_.symm; clear f1_ f2_ f3_; subst f4_; subst f5_))
         refine hK.out _ _ trivial (fun hHeld => ?_)
         clear hK K
         refine norm_ (a' := ?_) ?_ ?_
         rotate_left
         ·show Act.put _ (some 3) _ = _
          simp only [Act.put, List.setIfInBounds_toArray, List.set_cons_zero, List.set_cons_succ, i64_w, i32_w]
          rfl
         refine pure_ (i := 2) (N := some 4) (v := ?_) (a' := ?_) #[true, true, true, false, false] rfl rfl (by kernel_rfl) (fun _ _ _ h => h) (Or.inl ⟨by rfl, ?_⟩) ?_ ?_
         rotate_left
         ·intro w'
          go_simp
          with_reducible rfl
         rotate_left
         ·simp only [Act.put, List.setIfInBounds_toArray, List.set_cons_zero, List.set_cons_succ, i64_w, i32_w]
          rfl
         exact norm_ (by first | (simp only [putAll, Act.put, List.setIfInBounds_toArray, List.set_cons_zero, List.set_cons_succ]; done) | (simp only [putAll, Act.put, List.setIfInBounds_toArray, List.set_cons_zero, List.set_cons_succ]; rfl)) (hJ0_1 (.slice Ao15 y210.length co15, .slice Ao14 t213.length co14, .slice Ao13 t216.length co13) _ ⟨(by (with_reducible repeat (first | apply Kd.R_alloc | apply Kd.R_drewN | apply Kd.R_drew)); exact Kd.R_mono HO212.out (fun _ hk => hk.2)), (by (with_reducible repeat (first | apply Kd.R_alloc | apply Kd.R_drewN | apply Kd.R_drew)); exact Kd.R_mono HO215.out (fun _ hk => hk.2)), (nRo HO218), (nb BK209), (by repeat (first | (with_reducible first | exact HB.out | apply below_alloc | apply pw_below_drewN | apply below_drew1 | refine below_set ?_ GE209.out) | exact HB.out))⟩)
        ·skip
         refine box_step ?hg (N := 1) ?hd (cs := #[.slice none 0 0, .int .i64 0, .bool false, .int .i64 0, .int .i64 0, .int .i64 0, .int .i64 0, .slice none 0 0, .slice none 0 0, .int .i64 0]) (t := 57) ?hr ?_; (case hd => rfl); (case hg => rfl); (case hr => first | (go_simp; done) | (go_simp; rfl))
         intro gb219 hg w12 hbox hb
         have n0_ := nR HO212 hb
         have n1_ := nblk BK209 hb
         have n2_ := nbs HB hb
         have n3_ := Aside0.mk (hbox)
         have n4_ := nge HB hg
         have n5_ := nge HB hg
         have n6_ := nlt BK209 hg
         have n7_ := ngt BK209 hg
         clear HO212 BK209 HB
         have HO212 := n0_
         have BK209 := n1_
         have HB := n2_
         have BK219 := n3_
         have GW219 := n4_
         have GE219 := n5_
         have NB209_219 := n6_
         have NB219_209 := n7_
         clear n0_ n1_ n2_ n3_ n4_ n5_ n6_ n7_
         clear hb hbox hg
         refine hK.out _ _ trivial (fun hHeld => ?_)
         clear hK K
         refine norm_ (a' := ?_) ?_ ?_
         rotate_left
         ·show Act.put _ (some 1) _ = _
          simp only [Act.put, List.setIfInBounds_toArray, List.set_cons_zero, List.set_cons_succ, i64_w, i32_w]
          rfl
         exact norm_ (by first | (simp only [putAll, Act.put, List.setIfInBounds_toArray, List.set_cons_zero, List.set_cons_succ]; done) | (simp only [putAll, Act.put, List.setIfInBounds_toArray, List.set_cons_zero, List.set_cons_succ]; rfl)) (hJ0_3 (v211, gb219) _ ⟨(nRo HO212), (nb BK209), (nb BK219), GW219.out, GE219.out, NB209_219.out, NB219_209.out, (by repeat (first | (with_reducible first | exact HB.out | apply below_alloc | apply pw_below_drewN | apply below_drew1 | refine below_set ?_ GE209.out | refine below_set ?_ GE219.out) | exact HB.out))⟩)
      ·skip
       rintro ⟨v214, v217, gb219⟩ w11 ⟨h0_, h1_, h2_, h3_, h4_, h5_, h6_, h7_, h8_⟩
       have n0_ : Aside0 (Kd.R k33 33 w11 w.heap.size (fun _ => True) v214 t213) := ⟨h0_⟩
       have n1_ : Aside0 (Kd.R Kd.bool 4 w11 w.heap.size (fun _ => True) v217 t216) := ⟨h1_⟩
       have n2_ : Aside0 (w11.heap[gb209]? = some (.cells #[.slice none 0 0, .int .i64 0, .bool false, .int .i64 0, .int .i64 0, .int .i64 0, .int .i64 0, .slice none 0 0, .slice none 0 0, .int .i64 0] 57 (0, 0))) := ⟨h2_⟩
       have n3_ : Aside0 (w11.heap[gb219]? = some (.cells #[.slice none 0 0, .int .i64 0, .bool false, .int .i64 0, .int .i64 0, .int .i64 0, .int .i64 0, .slice none 0 0, .slice none 0 0, .int .i64 0] 57 (0, 0))) := ⟨h3_⟩
       have n4_ : Aside0 (w.heap.size ≤ gb219) := ⟨h4_⟩
       have n5_ : Aside0 (w.heap.size ≤ gb219) := ⟨h5_⟩
       have n6_ : Aside0 (gb209 ≠ gb219) := ⟨h6_⟩
       have n7_ : Aside0 (gb219 ≠ gb209) := ⟨h7_⟩
       have n8_ : Aside0 (Below w.heap.size w w11) := ⟨h8_⟩
       clear BK209 HB
       clear h0_ h1_ h2_ h3_ h4_ h5_ h6_ h7_ h8_
       have HO215 := n0_
       have HO218 := n1_
       have BK209 := n2_
       have BK219 := n3_
       have GW219 := n4_
       have GE219 := n5_
       have NB209_219 := n6_
       have NB219_209 := n7_
       have HB := n8_
       clear n0_ n1_ n2_ n3_ n4_ n5_ n6_ n7_ n8_
       have hHeld := trivial
       refine norm_ (a' := ?_) ?_ ?_
       rotate_left
       ·simp only [putAll, Act.put, List.setIfInBounds_toArray, List.set_cons_zero, List.set_cons_succ]
        rfl
       refine one_ (i := 0) (N := some 2) #[true, true, false, true, false] rfl rfl (by kernel_rfl) (by decide) (fun K hK => ?_)
       refine Kd.R_make_step k33 _ 33 (by rfl) (N := 2) rfl 35 _ _ rfl 8 rfl rfl Try.underlying35 (.agg #[(.int .i64 0), (.bool false), (.int .i64 0), (.int .i64 0), (.int .i64 0), (.int .i64 0)]) 48 info33 rfl (by decide) (by omega) z33 (ok := fun _ => True) (okp := fun _ => True) (k33_mkM _ _ _ z33 ) (fun _ hk => hk) trivial (by omega) (by omega) (Below.refl _ _) (Nat.le_refl _) ?_
       intro v211 w12 ho13 hb hg_ hnew_
       clear hg_ hnew_
       (first | rw [← Ny210.out] at ho13 | (simp only [Int.reduceToNat] at ho13; rw [← Ny210.out] at ho13))
       have n0_ := Aside0.mk (Kd.R_elder' (nRo HO215) (Kd.R_base ho13) hb)
       have n1_ := nR HO218 hb
       have n2_ := Aside0.mk (Kd.R_lower (Kd.R_new' ho13 (Kd.R_lt (nRo HO215))) (below_size (by repeat (first | (with_reducible first | exact HB.out | apply below_alloc | apply pw_below_drewN | apply below_drew1 | refine below_set ?_ GE209.out | refine below_set ?_ GE219.out) | exact HB.out))))
       have n3_ := nblk BK209 hb
       have n4_ := nblk BK219 hb
       have n5_ := nbs HB hb
       clear HO215 HO218 BK209 BK219 HB
       have HO215 := n0_
       have HO218 := n1_
       have HO212 := n2_
       have BK209 := n3_
       have BK219 := n4_
       have HB := n5_
       clear n0_ n1_ n2_ n3_ n4_ n5_
       clear hb ho13
       obtain ⟨Ao14, co14, eo14⟩ := Kd.R_slice HO218.out
       (first | subst eo14 | (injection eo14 with f1_ f2_ f3_; have f4_ := f1_.symm; have f5_ := f3_.symm; clear f1_ f2_ f3_; subst f4_; subst f5_))
       obtain ⟨Ao15, co15, eo15⟩ := Kd.R_slice HO215.out
       (first | subst eo15 | (injection eo15 with f1_ f2_ f3_; have f4_ := f1_.symm; have f5_ := f3_.symm; clear f1_ f2_ f3_; subst f4_; subst f5_))
       obtain ⟨Ao16, co16, eo16⟩ := Kd.R_slice HO212.out
       (first | subst eo16 | (injection eo16 with f1_ f2_ f3_; have f4_ := f1_.symm; have f5_ := f3_.symm; clear f1_ f2_ f3_; subst f4_; subst f5_))
       refine hK.out _ _ trivial (fun hHeld => ?_)
       clear hK K
       refine norm_ (a' := ?_) ?_ ?_
       rotate_left
       ·show Act.put _ (some 2) _ = _
        simp only [Act.put, List.setIfInBounds_toArray, List.set_cons_zero, List.set_cons_succ, i64_w, i32_w]
        rfl
       refine pure_ (i := 2) (N := some 4) (v := ?_) (a' := ?_) #[true, true, true, true, false] rfl rfl (by kernel_rfl) (fun _ _ _ h => h) (Or.inl ⟨by rfl, ?_⟩) ?_ ?_
       rotate_left
       ·intro w'
        go_simp
        with_reducible rfl
       rotate_left
       ·simp only [Act.put, List.setIfInBounds_toArray, List.set_cons_zero, List.set_cons_succ, i64_w, i32_w]
        rfl
       exact norm_ (by first | (simp only [putAll, Act.put, List.setIfInBounds_toArray, List.set_cons_zero, List.set_cons_succ]; done) | (simp only [putAll, Act.put, List.setIfInBounds_toArray, List.set_cons_zero, List.set_cons_succ]; rfl)) (hJ0_1_3 (.slice Ao16 y210.length co16, .slice Ao15 t213.length co15, .slice Ao14 t216.length co14, gb219) _ ⟨(by (with_reducible repeat (first | apply Kd.R_alloc | apply Kd.R_drewN | apply Kd.R_drew)); exact Kd.R_mono HO212.out (fun _ hk => hk.2)), (by (with_reducible repeat (first | apply Kd.R_alloc | apply Kd.R_drewN | apply Kd.R_drew)); exact Kd.R_mono HO215.out (fun _ hk => hk.2)), (nRo HO218), (nb BK209), (nb BK219), GW219.out, GE219.out, NB209_219.out, NB219_209.out, (by repeat (first | (with_reducible first | exact HB.out | apply below_alloc | apply pw_below_drewN | apply below_drew1 | refine below_set ?_ GE209.out | refine below_set ?_ GE219.out) | exact HB.out))⟩)
     ·skip
      rintro ⟨v211, gb219⟩ w12 ⟨h0_, h1_, h2_, h3_, h4_, h5_, h6_, h7_⟩
      have n0_ : Aside0 (Kd.R k33 33 w12 w.heap.size (fun _ => True) v211 y210) := ⟨h0_⟩
      have n1_ : Aside0 (w12.heap[gb209]? = some (.cells #[.slice none 0 0, .int .i64 0, .bool false, .int .i64 0, .int .i64 0, .int .i64 0, .int .i64 0, .slice none 0 0, .slice none 0 0, .int .i64 0] 57 (0, 0))) := ⟨h1_⟩
      have n2_ : Aside0 (w12.heap[gb219]? = some (.cells #[.slice none 0 0, .int .i64 0, .bool false, .int .i64 0, .int .i64 0, .int .i64 0, .int .i64 0, .slice none 0 0, .slice none 0 0, .int .i64 0] 57 (0, 0))) := ⟨h2_⟩
      have n3_ : Aside0 (w.heap.size ≤ gb219) := ⟨h3_⟩
      have n4_ : Aside0 (w.heap.size ≤ gb219) := ⟨h4_⟩
      have n5_ : Aside0 (gb209 ≠ gb219) := ⟨h5_⟩
      have n6_ : Aside0 (gb219 ≠ gb209) := ⟨h6_⟩
      have n7_ : Aside0 (Below w.heap.size w w12) := ⟨h7_⟩
      clear BK209 HB
      clear h0_ h1_ h2_ h3_ h4_ h5_ h6_ h7_
      have HO212 := n0_
      have BK209 := n1_
      have BK219 := n2_
      have GW219 := n3_
      have GE219 := n4_
      have NB209_219 := n5_
      have NB219_209 := n6_
      have HB := n7_
      clear n0_ n1_ n2_ n3_ n4_ n5_ n6_ n7_
      have hHeld := trivial
      refine norm_ (a' := ?_) ?_ ?_
      rotate_left
      ·simp only [putAll, Act.put, List.setIfInBounds_toArray, List.set_cons_zero, List.set_cons_succ]
       rfl
      refine one_ (i := 1) (N := some 3) #[true, true, false, true, false] rfl rfl (by kernel_rfl) (by decide) (fun K hK => ?_)
      refine goesR Try.func20 (by kernel_rfl) rfl #[] (by rfl) rfl rfl ?_
      with_reducible refine (impl_MemoryNew.calls  t213 t216 _ A2.out).mono ?_
      rintro e w13 ⟨v214, v217, rfl, ho0, ho1, hb⟩
      refine ⟨_, rfl, ?_⟩
      have n0_ := Aside0.mk (Kd.R_elder' (nRo HO212) (Kd.R_base ho0) hb)
      have n1_ := Aside0.mk (Kd.R_lower (Kd.R_new' ho0 (Kd.R_lt (nRo HO212))) (below_size (by repeat (first | (with_reducible first | exact HB.out | apply below_alloc | apply pw_below_drewN | apply below_drew1 | refine below_set ?_ GE209.out | refine below_set ?_ GE219.out) | exact HB.out))))
      have n2_ := Aside0.mk (Kd.R_lower ho1 (below_size (by repeat (first | (with_reducible first | exact HB.out | apply below_alloc | apply pw_below_drewN | apply below_drew1 | refine below_set ?_ GE209.out | refine below_set ?_ GE219.out) | exact HB.out))))
      have n3_ := nblk BK209 hb
      have n4_ := nblk BK219 hb
      have n5_ := nbs HB hb
      clear HO212 BK209 BK219 HB
      have HO212 := n0_
      have HO215 := n1_
      have HO218 := n2_
      have BK209 := n3_
      have BK219 := n4_
      have HB := n5_
      clear n0_ n1_ n2_ n3_ n4_ n5_
      (try clear hb)
      (try clear ho0)
      (try clear ho1)
      obtain ⟨Ao14, co14, eo14⟩ := Kd.R_slice HO218.out
      (first | subst eo14 | (injection eo14 with f1_ f2_ f3_; have f4_ := f1_.symm; have f5_ := f3_.symm; clear f1_ f2_ f3_; subst f4_; subst f5_))
      obtain ⟨Ao15, co15, eo15⟩ := Kd.R_slice HO215.out
      (first | subst eo15 | (injection eo15 with f1_ f2_ f3_; have f4_ := f1_.symm; have f5_ := f3_.symm; clear f1_ f2_ f3_; subst f4_; subst f5_))
      obtain ⟨Ao16, co16, eo16⟩ := Kd.R_slice HO212.out
      (first | subst eo16 | (injection eo16 with f1_ f2_ f3_; have f4_ := f1_.symm; have f5_ := f3_.symm; clear f1_ f2_ f3_; subst f4_; subst f5_))
      refine hK.out _ _ trivial (fun hHeld => ?_)
      clear hK K
      refine norm_ (a' := ?_) ?_ ?_
      rotate_left
      ·show Act.put _ (some 3) _ = _
       simp only [Act.put, List.setIfInBounds_toArray, List.set_cons_zero, List.set_cons_succ, i64_w, i32_w]
       rfl
      refine pure_ (i := 2) (N := some 4) (v := ?_) (a' := ?_) #[true, true, true, true, false] rfl rfl (by kernel_rfl) (fun _ _ _ h => h) (Or.inl ⟨by rfl, ?_⟩) ?_ ?_
      rotate_left
      ·intro w'
       go_simp
       with_reducible rfl
      rotate_left
      ·simp only [Act.put, List.setIfInBounds_toArray, List.set_cons_zero, List.set_cons_succ, i64_w, i32_w]
       rfl
      exact norm_ (by first | (simp only [putAll, Act.put, List.setIfInBounds_toArray, List.set_cons_zero, List.set_cons_succ]; done) | (simp only [putAll, Act.put, List.setIfInBounds_toArray, List.set_cons_zero, List.set_cons_succ]; rfl)) (hJ0_1_3 (.slice Ao16 y210.length co16, .slice Ao15 t213.length co15, .slice Ao14 t216.length co14, gb219) _ ⟨(by (with_reducible repeat (first | apply Kd.R_alloc | apply Kd.R_drewN | apply Kd.R_drew)); exact Kd.R_mono HO212.out (fun _ hk => hk.2)), (by (with_reducible repeat (first | apply Kd.R_alloc | apply Kd.R_drewN | apply Kd.R_drew)); exact Kd.R_mono HO215.out (fun _ hk => hk.2)), (nRo HO218), (nb BK209), (nb BK219), GW219.out, GE219.out, NB209_219.out, NB219_209.out, (by repeat (first | (with_reducible first | exact HB.out | apply below_alloc | apply pw_below_drewN | apply below_drew1 | refine below_set ?_ GE209.out | refine below_set ?_ GE219.out) | exact HB.out))⟩)
    ·skip
     rintro ⟨v211, v214, v217⟩ w15 ⟨h0_, h1_, h2_, h3_, h4_⟩
     have n0_ : Aside0 (Kd.R k33 33 w15 w.heap.size (fun k_ => some k_ ≠ (v214 : Value).ownBlock) v211 y210) := ⟨h0_⟩
     have n1_ : Aside0 (Kd.R k33 33 w15 w.heap.size (fun k_ => some k_ ≠ (v211 : Value).ownBlock) v214 t213) := ⟨h1_⟩
     have n2_ : Aside0 (Kd.R Kd.bool 4 w15 w.heap.size (fun _ => True) v217 t216) := ⟨h2_⟩
     have n3_ : Aside0 (w15.heap[gb209]? = some (.cells #[.slice none 0 0, .int .i64 0, .bool false, .int .i64 0, .int .i64 0, .int .i64 0, .int .i64 0, .slice none 0 0, .slice none 0 0, .int .i64 0] 57 (0, 0))) := ⟨h3_⟩
     have n4_ : Aside0 (Below w.heap.size w w15) := ⟨h4_⟩
     clear BK209 HB
     clear h0_ h1_ h2_ h3_ h4_
     have HO212 := n0_
     have HO215 := n1_
     have HO218 := n2_
     have BK209 := n3_
     have HB := n4_
     clear n0_ n1_ n2_ n3_ n4_
     have hHeld := trivial
     obtain ⟨Ao16, co16, eo16⟩ := Kd.R_slice HO218.out
     (first | subst eo16 | (injection eo16 with f1_ f2_ f3_; have f4_ := f1_.symm; have f5_ := f3_.symm; clear f1_ f2_ f3_; subst f4_; subst f5_))
     obtain ⟨Ao17, co17, eo17⟩ := Kd.R_slice HO215.out
     (first | subst eo17 | (injection eo17 with f1_ f2_ f3_; have f4_ := f1_.symm; have f5_ := f3_.symm; clear f1_ f2_ f3_; subst f4_; subst f5_))
     obtain ⟨Ao18, co18, eo18⟩ := Kd.R_slice HO212.out
     (first | subst eo18 | (injection eo18 with f1_ f2_ f3_; have f4_ := f1_.symm; have f5_ := f3_.symm; clear f1_ f2_ f3_; subst f4_; subst f5_))
     refine norm_ (a' := ?_) ?_ ?_
     rotate_left
     ·simp only [putAll, Act.put, List.setIfInBounds_toArray, List.set_cons_zero, List.set_cons_succ]
      rfl
     refine one_ (i := 3) (N := some 1) #[true, true, true, true, false] rfl rfl (by kernel_rfl) (by decide) (fun K hK => ?_)
     refine box_step ?hg (N := 1) ?hd (cs := #[.slice none 0 0, .int .i64 0, .bool false, .int .i64 0, .int .i64 0, .int .i64 0, .int .i64 0, .slice none 0 0, .slice none 0 0, .int .i64 0]) (t := 57) ?hr ?_; (case hd => rfl); (case hg => rfl); (case hr => first | (go_simp; done) | (go_simp; rfl))
     intro gb219 hg w19 hbox hb
     have n0_ := nR HO212 hb
     have n1_ := nR HO215 hb
     have n2_ := nR HO218 hb
     have n3_ := nblk BK209 hb
     have n4_ := nbs HB hb
     have n5_ := Aside0.mk (hbox)
     have n6_ := nge HB hg
     have n7_ := nge HB hg
     have n8_ := nlt BK209 hg
     have n9_ := ngt BK209 hg
     clear HO212 HO215 HO218 BK209 HB
     have HO212 := n0_
     have HO215 := n1_
     have HO218 := n2_
     have BK209 := n3_
     have HB := n4_
     have BK219 := n5_
     have GW219 := n6_
     have GE219 := n7_
     have NB209_219 := n8_
     have NB219_209 := n9_
     clear n0_ n1_ n2_ n3_ n4_ n5_ n6_ n7_ n8_ n9_
     clear hb hbox hg
     refine hK.out _ _ trivial (fun hHeld => ?_)
     clear hK K
     refine norm_ (a' := ?_) ?_ ?_
     rotate_left
     ·show Act.put _ (some 1) _ = _
      simp only [Act.put, List.setIfInBounds_toArray, List.set_cons_zero, List.set_cons_succ, i64_w, i32_w]
      rfl
     exact norm_ (by first | (simp only [putAll, Act.put, List.setIfInBounds_toArray, List.set_cons_zero, List.set_cons_succ]; done) | (simp only [putAll, Act.put, List.setIfInBounds_toArray, List.set_cons_zero, List.set_cons_succ]; rfl)) (hJ0_1_3 (.slice Ao18 y210.length co18, .slice Ao17 t213.length co17, .slice Ao16 t216.length co16, gb219) _ ⟨(nRo HO212), (nRo HO215), (nRo HO218), (nb BK209), (nb BK219), GW219.out, GE219.out, NB209_219.out, NB219_209.out, (by repeat (first | (with_reducible first | exact HB.out | apply below_alloc | apply pw_below_drewN | apply below_drew1 | refine below_set ?_ GE209.out | refine below_set ?_ GE219.out) | exact HB.out))⟩)
   rintro ⟨v211, v214, v217, gb219⟩ w16 ⟨h0_, h1_, h2_, h3_, h4_, h5_, h6_, h7_, h8_, h9_⟩
   have n0_ : Aside0 (Kd.R k33 33 w16 w.heap.size (fun k_ => some k_ ≠ (v214 : Value).ownBlock) v211 y210) := ⟨h0_⟩
   have n1_ : Aside0 (Kd.R k33 33 w16 w.heap.size (fun k_ => some k_ ≠ (v211 : Value).ownBlock) v214 t213) := ⟨h1_⟩
   have n2_ : Aside0 (Kd.R Kd.bool 4 w16 w.heap.size (fun _ => True) v217 t216) := ⟨h2_⟩
   have n3_ : Aside0 (w16.heap[gb209]? = some (.cells #[.slice none 0 0, .int .i64 0, .bool false, .int .i64 0, .int .i64 0, .int .i64 0, .int .i64 0, .slice none 0 0, .slice none 0 0, .int .i64 0] 57 (0, 0))) := ⟨h3_⟩
   have n4_ : Aside0 (w16.heap[gb219]? = some (.cells #[.slice none 0 0, .int .i64 0, .bool false, .int .i64 0, .int .i64 0, .int .i64 0, .int .i64 0, .slice none 0 0, .slice none 0 0, .int .i64 0] 57 (0, 0))) := ⟨h4_⟩
   have n5_ : Aside0 (w.heap.size ≤ gb219) := ⟨h5_⟩
   have n6_ : Aside0 (w.heap.size ≤ gb219) := ⟨h6_⟩
   have n7_ : Aside0 (gb209 ≠ gb219) := ⟨h7_⟩
   have n8_ : Aside0 (gb219 ≠ gb209) := ⟨h8_⟩
   have n9_ : Aside0 (Below w.heap.size w w16) := ⟨h9_⟩
   clear BK209 HB
   clear h0_ h1_ h2_ h3_ h4_ h5_ h6_ h7_ h8_ h9_
   have HO212 := n0_
   have HO215 := n1_
   have HO218 := n2_
   have BK209 := n3_
   have BK219 := n4_
   have GW219 := n5_
   have GE219 := n6_
   have NB209_219 := n7_
   have NB219_209 := n8_
   have HB := n9_
   clear n0_ n1_ n2_ n3_ n4_ n5_ n6_ n7_ n8_ n9_
   have hHeld := trivial
   obtain ⟨Ao17, co17, eo17⟩ := Kd.R_slice HO218.out
   (first | subst eo17 | (injection eo17 with f1_ f2_ f3_; have f4_ := f1_.symm; have f5_ := f3_.symm; clear f1_ f2_ f3_; subst f4_; subst f5_))
   obtain ⟨Ao18, co18, eo18⟩ := Kd.R_slice HO215.out
   (first | subst eo18 | (injection eo18 with f1_ f2_ f3_; have f4_ := f1_.symm; have f5_ := f3_.symm; clear f1_ f2_ f3_; subst f4_; subst f5_))
   obtain ⟨Ao19, co19, eo19⟩ := Kd.R_slice HO212.out
   (first | subst eo19 | (injection eo19 with f1_ f2_ f3_; have f4_ := f1_.symm; have f5_ := f3_.symm; clear f1_ f2_ f3_; subst f4_; subst f5_))
   refine norm_ (a' := ?_) ?_ ?_
   rotate_left
   ·simp only [putAll, Act.put, List.setIfInBounds_toArray, List.set_cons_zero, List.set_cons_succ]
    rfl
   refine one_ (i := 4) (N := none) #[true, true, true, true, true] rfl rfl (by kernel_rfl) (by decide) (fun K hK => ?_)
   have hs20 : w16.cell? ⟨gb219, 0, none⟩ = some (.slice none 0 0) := (blk_cell BK219.out 0).trans rfl
   have hfs20 := blk_frozen BK219.out 0
   have hns20_0 := NB209_219.out
   have hms20_0 := NB219_209.out
   have hs21 : w16.cell? ⟨gb219, 1, none⟩ = some (.int .i64 0) := (blk_cell BK219.out 1).trans rfl
   have hfs21 := blk_frozen BK219.out 1
   have hns21_0 := NB209_219.out
   have hms21_0 := NB219_209.out
   have hs22 : w16.cell? ⟨gb219, 2, none⟩ = some (.bool false) := (blk_cell BK219.out 2).trans rfl
   have hfs22 := blk_frozen BK219.out 2
   have hns22_0 := NB209_219.out
   have hms22_0 := NB219_209.out
   have hs23 : w16.cell? ⟨gb219, 3, none⟩ = some (.int .i64 0) := (blk_cell BK219.out 3).trans rfl
   have hfs23 := blk_frozen BK219.out 3
   have hns23_0 := NB209_219.out
   have hms23_0 := NB219_209.out
   have hs24 : w16.cell? ⟨gb219, 4, none⟩ = some (.int .i64 0) := (blk_cell BK219.out 4).trans rfl
   have hfs24 := blk_frozen BK219.out 4
   have hns24_0 := NB209_219.out
   have hms24_0 := NB219_209.out
   have hs25 : w16.cell? ⟨gb219, 5, none⟩ = some (.int .i64 0) := (blk_cell BK219.out 5).trans rfl
   have hfs25 := blk_frozen BK219.out 5
   have hns25_0 := NB209_219.out
   have hms25_0 := NB219_209.out
   have hs26 : w16.cell? ⟨gb219, 6, none⟩ = some (.int .i64 0) := (blk_cell BK219.out 6).trans rfl
   have hfs26 := blk_frozen BK219.out 6
   have hns26_0 := NB209_219.out
   have hms26_0 := NB219_209.out
   have hs27 : w16.cell? ⟨gb219, 7, none⟩ = some (.slice none 0 0) := (blk_cell BK219.out 7).trans rfl
   have hfs27 := blk_frozen BK219.out 7
   have hns27_0 := NB209_219.out
   have hms27_0 := NB219_209.out
   have hs28 : w16.cell? ⟨gb219, 8, none⟩ = some (.slice none 0 0) := (blk_cell BK219.out 8).trans rfl
   have hfs28 := blk_frozen BK219.out 8
   have hns28_0 := NB209_219.out
   have hms28_0 := NB219_209.out
   have hs29 : w16.cell? ⟨gb219, 9, none⟩ = some (.int .i64 0) := (blk_cell BK219.out 9).trans rfl
   have hfs29 := blk_frozen BK219.out 9
   have hns29_0 := NB209_219.out
   have hms29_0 := NB219_209.out
   refine skip_ (w1 := ?_) (by rfl) rfl ?_ ?_
   rotate_left
   ·go_simp
    rfl
   refine hK.out _ _ trivial (fun hHeld => ?_)
   clear hK K
   refine done_ (by kernel_rfl) ?_
   try go_wp2
   have n0_ : Aside0 (Kd.R k33 33 ((((((((((w16.setCell ⟨gb219, 0, none⟩ (.slice Ao19 y210.length co19)).setCell ⟨gb219, 1, none⟩ (.int .i64 0)).setCell ⟨gb219, 2, none⟩ (.bool false)).setCell ⟨gb219, 3, none⟩ (.int .i64 0)).setCell ⟨gb219, 4, none⟩ (.int .i64 0)).setCell ⟨gb219, 5, none⟩ (.int .i64 0)).setCell ⟨gb219, 6, none⟩ (.int .i64 0)).setCell ⟨gb219, 7, none⟩ (.slice Ao18 t213.length co18)).setCell ⟨gb219, 8, none⟩ (.slice Ao17 t216.length co17)).setCell ⟨gb219, 9, none⟩ (.int .i64 0)) w.heap.size (fun k_ => some k_ ≠ (.slice Ao18 t213.length co18 : Value).ownBlock) (.slice Ao19 y210.length co19) y210) := ⟨by (with_reducible repeat (first | apply Kd.R_alloc | apply Kd.R_drewN | apply Kd.R_drew)); exact Kd.R_mono (Kd.R_far (p := ⟨gb219, 9, none⟩) (Kd.R_far (p := ⟨gb219, 8, none⟩) (Kd.R_far (p := ⟨gb219, 7, none⟩) (Kd.R_far (p := ⟨gb219, 6, none⟩) (Kd.R_far (p := ⟨gb219, 5, none⟩) (Kd.R_far (p := ⟨gb219, 4, none⟩) (Kd.R_far (p := ⟨gb219, 3, none⟩) (Kd.R_far (p := ⟨gb219, 2, none⟩) (Kd.R_far (p := ⟨gb219, 1, none⟩) (Kd.R_far (p := ⟨gb219, 0, none⟩) (Kd.R_types HO212.out BK219.out (by decide)) (fun _ hk => hk.2) (.slice Ao19 y210.length co19)) (fun _ hk => hk.2) (.int .i64 0)) (fun _ hk => hk.2) (.bool false)) (fun _ hk => hk.2) (.int .i64 0)) (fun _ hk => hk.2) (.int .i64 0)) (fun _ hk => hk.2) (.int .i64 0)) (fun _ hk => hk.2) (.int .i64 0)) (fun _ hk => hk.2) (.slice Ao18 t213.length co18)) (fun _ hk => hk.2) (.slice Ao17 t216.length co17)) (fun _ hk => hk.2) (.int .i64 0)) (fun _ hk => hk.1)⟩
   have n1_ : Aside0 (Kd.R k33 33 ((((((((((w16.setCell ⟨gb219, 0, none⟩ (.slice Ao19 y210.length co19)).setCell ⟨gb219, 1, none⟩ (.int .i64 0)).setCell ⟨gb219, 2, none⟩ (.bool false)).setCell ⟨gb219, 3, none⟩ (.int .i64 0)).setCell ⟨gb219, 4, none⟩ (.int .i64 0)).setCell ⟨gb219, 5, none⟩ (.int .i64 0)).setCell ⟨gb219, 6, none⟩ (.int .i64 0)).setCell ⟨gb219, 7, none⟩ (.slice Ao18 t213.length co18)).setCell ⟨gb219, 8, none⟩ (.slice Ao17 t216.length co17)).setCell ⟨gb219, 9, none⟩ (.int .i64 0)) w.heap.size (fun k_ => some k_ ≠ (.slice Ao19 y210.length co19 : Value).ownBlock) (.slice Ao18 t213.length co18) t213) := ⟨by (with_reducible repeat (first | apply Kd.R_alloc | apply Kd.R_drewN | apply Kd.R_drew)); exact Kd.R_mono (Kd.R_far (p := ⟨gb219, 9, none⟩) (Kd.R_far (p := ⟨gb219, 8, none⟩) (Kd.R_far (p := ⟨gb219, 7, none⟩) (Kd.R_far (p := ⟨gb219, 6, none⟩) (Kd.R_far (p := ⟨gb219, 5, none⟩) (Kd.R_far (p := ⟨gb219, 4, none⟩) (Kd.R_far (p := ⟨gb219, 3, none⟩) (Kd.R_far (p := ⟨gb219, 2, none⟩) (Kd.R_far (p := ⟨gb219, 1, none⟩) (Kd.R_far (p := ⟨gb219, 0, none⟩) (Kd.R_types HO215.out BK219.out (by decide)) (fun _ hk => hk.2) (.slice Ao19 y210.length co19)) (fun _ hk => hk.2) (.int .i64 0)) (fun _ hk => hk.2) (.bool false)) (fun _ hk => hk.2) (.int .i64 0)) (fun _ hk => hk.2) (.int .i64 0)) (fun _ hk => hk.2) (.int .i64 0)) (fun _ hk => hk.2) (.int .i64 0)) (fun _ hk => hk.2) (.slice Ao18 t213.length co18)) (fun _ hk => hk.2) (.slice Ao17 t216.length co17)) (fun _ hk => hk.2) (.int .i64 0)) (fun _ hk => hk.1)⟩
   have n2_ : Aside0 (Kd.R Kd.bool 4 ((((((((((w16.setCell ⟨gb219, 0, none⟩ (.slice Ao19 y210.length co19)).setCell ⟨gb219, 1, none⟩ (.int .i64 0)).setCell ⟨gb219, 2, none⟩ (.bool false)).setCell ⟨gb219, 3, none⟩ (.int .i64 0)).setCell ⟨gb219, 4, none⟩ (.int .i64 0)).setCell ⟨gb219, 5, none⟩ (.int .i64 0)).setCell ⟨gb219, 6, none⟩ (.int .i64 0)).setCell ⟨gb219, 7, none⟩ (.slice Ao18 t213.length co18)).setCell ⟨gb219, 8, none⟩ (.slice Ao17 t216.length co17)).setCell ⟨gb219, 9, none⟩ (.int .i64 0)) w.heap.size (fun _ => True) (.slice Ao17 t216.length co17) t216) := ⟨by (with_reducible repeat (first | apply Kd.R_alloc | apply Kd.R_drewN | apply Kd.R_drew)); exact Kd.R_mono (Kd.R_far (p := ⟨gb219, 9, none⟩) (Kd.R_far (p := ⟨gb219, 8, none⟩) (Kd.R_far (p := ⟨gb219, 7, none⟩) (Kd.R_far (p := ⟨gb219, 6, none⟩) (Kd.R_far (p := ⟨gb219, 5, none⟩) (Kd.R_far (p := ⟨gb219, 4, none⟩) (Kd.R_far (p := ⟨gb219, 3, none⟩) (Kd.R_far (p := ⟨gb219, 2, none⟩) (Kd.R_far (p := ⟨gb219, 1, none⟩) (Kd.R_far (p := ⟨gb219, 0, none⟩) (Kd.R_types HO218.out BK219.out (by decide)) (fun _ hk => hk.2) (.slice Ao19 y210.length co19)) (fun _ hk => hk.2) (.int .i64 0)) (fun _ hk => hk.2) (.bool false)) (fun _ hk => hk.2) (.int .i64 0)) (fun _ hk => hk.2) (.int .i64 0)) (fun _ hk => hk.2) (.int .i64 0)) (fun _ hk => hk.2) (.int .i64 0)) (fun _ hk => hk.2) (.slice Ao18 t213.length co18)) (fun _ hk => hk.2) (.slice Ao17 t216.length co17)) (fun _ hk => hk.2) (.int .i64 0)) (fun _ hk => trivial)⟩
   have n3_ : Aside0 (((((((((((w16.setCell ⟨gb219, 0, none⟩ (.slice Ao19 y210.length co19)).setCell ⟨gb219, 1, none⟩ (.int .i64 0)).setCell ⟨gb219, 2, none⟩ (.bool false)).setCell ⟨gb219, 3, none⟩ (.int .i64 0)).setCell ⟨gb219, 4, none⟩ (.int .i64 0)).setCell ⟨gb219, 5, none⟩ (.int .i64 0)).setCell ⟨gb219, 6, none⟩ (.int .i64 0)).setCell ⟨gb219, 7, none⟩ (.slice Ao18 t213.length co18)).setCell ⟨gb219, 8, none⟩ (.slice Ao17 t216.length co17)).setCell ⟨gb219, 9, none⟩ (.int .i64 0)).heap[gb209]? = some (.cells #[.slice none 0 0, .int .i64 0, .bool false, .int .i64 0, .int .i64 0, .int .i64 0, .int .i64 0, .slice none 0 0, .slice none 0 0, .int .i64 0] 57 (0, 0))) := ⟨nb BK209⟩
   have n4_ : Aside0 (((((((((((w16.setCell ⟨gb219, 0, none⟩ (.slice Ao19 y210.length co19)).setCell ⟨gb219, 1, none⟩ (.int .i64 0)).setCell ⟨gb219, 2, none⟩ (.bool false)).setCell ⟨gb219, 3, none⟩ (.int .i64 0)).setCell ⟨gb219, 4, none⟩ (.int .i64 0)).setCell ⟨gb219, 5, none⟩ (.int .i64 0)).setCell ⟨gb219, 6, none⟩ (.int .i64 0)).setCell ⟨gb219, 7, none⟩ (.slice Ao18 t213.length co18)).setCell ⟨gb219, 8, none⟩ (.slice Ao17 t216.length co17)).setCell ⟨gb219, 9, none⟩ (.int .i64 0)).heap[gb219]? = some (.cells #[.slice Ao19 y210.length co19, .int .i64 0, .bool false, .int .i64 0, .int .i64 0, .int .i64 0, .int .i64 0, .slice Ao18 t213.length co18, .slice Ao17 t216.length co17, .int .i64 0] 57 (0, 0))) := ⟨by (with_reducible repeat (first | refine blk_drewN ?_ _ | refine blk_drew ?_ | refine blk_alloc ?_ _)); refine blk_put (cs := #[.slice Ao19 y210.length co19, .int .i64 0, .bool false, .int .i64 0, .int .i64 0, .int .i64 0, .int .i64 0, .slice Ao18 t213.length co18, .slice Ao17 t216.length co17, .int .i64 0]) ?_ 9 _ rfl; (with_reducible repeat (first | refine blk_drewN ?_ _ | refine blk_drew ?_ | refine blk_alloc ?_ _)); refine blk_put (cs := #[.slice Ao19 y210.length co19, .int .i64 0, .bool false, .int .i64 0, .int .i64 0, .int .i64 0, .int .i64 0, .slice Ao18 t213.length co18, .slice none 0 0, .int .i64 0]) ?_ 8 _ rfl; (with_reducible repeat (first | refine blk_drewN ?_ _ | refine blk_drew ?_ | refine blk_alloc ?_ _)); refine blk_put (cs := #[.slice Ao19 y210.length co19, .int .i64 0, .bool false, .int .i64 0, .int .i64 0, .int .i64 0, .int .i64 0, .slice none 0 0, .slice none 0 0, .int .i64 0]) ?_ 7 _ rfl; (with_reducible repeat (first | refine blk_drewN ?_ _ | refine blk_drew ?_ | refine blk_alloc ?_ _)); refine blk_put (cs := #[.slice Ao19 y210.length co19, .int .i64 0, .bool false, .int .i64 0, .int .i64 0, .int .i64 0, .int .i64 0, .slice none 0 0, .slice none 0 0, .int .i64 0]) ?_ 6 _ rfl; (with_reducible repeat (first | refine blk_drewN ?_ _ | refine blk_drew ?_ | refine blk_alloc ?_ _)); refine blk_put (cs := #[.slice Ao19 y210.length co19, .int .i64 0, .bool false, .int .i64 0, .int .i64 0, .int .i64 0, .int .i64 0, .slice none 0 0, .slice none 0 0, .int .i64 0]) ?_ 5 _ rfl; (with_reducible repeat (first | refine blk_drewN ?_ _ | refine blk_drew ?_ | refine blk_alloc ?_ _)); refine blk_put (cs := #[.slice Ao19 y210.length co19, .int .i64 0, .bool false, .int .i64 0, .int .i64 0, .int .i64 0, .int .i64 0, .slice none 0 0, .slice none 0 0, .int .i64 0]) ?_ 4 _ rfl; (with_reducible repeat (first | refine blk_drewN ?_ _ | refine blk_drew ?_ | refine blk_alloc ?_ _)); refine blk_put (cs := #[.slice Ao19 y210.length co19, .int .i64 0, .bool false, .int .i64 0, .int .i64 0, .int .i64 0, .int .i64 0, .slice none 0 0, .slice none 0 0, .int .i64 0]) ?_ 3 _ rfl; (with_reducible repeat (first | refine blk_drewN ?_ _ | refine blk_drew ?_ | refine blk_alloc ?_ _)); refine blk_put (cs := #[.slice Ao19 y210.length co19, .int .i64 0, .bool false, .int .i64 0, .int .i64 0, .int .i64 0, .int .i64 0, .slice none 0 0, .slice none 0 0, .int .i64 0]) ?_ 2 _ rfl; (with_reducible repeat (first | refine blk_drewN ?_ _ | refine blk_drew ?_ | refine blk_alloc ?_ _)); refine blk_put (cs := #[.slice Ao19 y210.length co19, .int .i64 0, .bool false, .int .i64 0, .int .i64 0, .int .i64 0, .int .i64 0, .slice none 0 0, .slice none 0 0, .int .i64 0]) ?_ 1 _ rfl; (with_reducible repeat (first | refine blk_drewN ?_ _ | refine blk_drew ?_ | refine blk_alloc ?_ _)); refine blk_put (cs := #[.slice none 0 0, .int .i64 0, .bool false, .int .i64 0, .int .i64 0, .int .i64 0, .int .i64 0, .slice none 0 0, .slice none 0 0, .int .i64 0]) ?_ 0 _ rfl; (with_reducible repeat (first | refine blk_drewN ?_ _ | refine blk_drew ?_ | refine blk_alloc ?_ _)); exact BK219.out⟩
   have n5_ : Aside0 (Below w.heap.size w ((((((((((w16.setCell ⟨gb219, 0, none⟩ (.slice Ao19 y210.length co19)).setCell ⟨gb219, 1, none⟩ (.int .i64 0)).setCell ⟨gb219, 2, none⟩ (.bool false)).setCell ⟨gb219, 3, none⟩ (.int .i64 0)).setCell ⟨gb219, 4, none⟩ (.int .i64 0)).setCell ⟨gb219, 5, none⟩ (.int .i64 0)).setCell ⟨gb219, 6, none⟩ (.int .i64 0)).setCell ⟨gb219, 7, none⟩ (.slice Ao18 t213.length co18)).setCell ⟨gb219, 8, none⟩ (.slice Ao17 t216.length co17)).setCell ⟨gb219, 9, none⟩ (.int .i64 0))) := ⟨by repeat (first | (with_reducible first | exact HB.out | apply below_alloc | apply pw_below_drewN | apply below_drew1 | refine below_set ?_ GE209.out | refine below_set ?_ GE219.out) | exact HB.out)⟩
   (try clear HO212)
   (try clear HO215)
   (try clear HO218)
   (try clear BK209)
   (try clear BK219)
   (try clear HB)
   generalize ((((((((((w16.setCell ⟨gb219, 0, none⟩ (.slice Ao19 y210.length co19)).setCell ⟨gb219, 1, none⟩ (.int .i64 0)).setCell ⟨gb219, 2, none⟩ (.bool false)).setCell ⟨gb219, 3, none⟩ (.int .i64 0)).setCell ⟨gb219, 4, none⟩ (.int .i64 0)).setCell ⟨gb219, 5, none⟩ (.int .i64 0)).setCell ⟨gb219, 6, none⟩ (.int .i64 0)).setCell ⟨gb219, 7, none⟩ (.slice Ao18 t213.length co18)).setCell ⟨gb219, 8, none⟩ (.slice Ao17 t216.length co17)).setCell ⟨gb219, 9, none⟩ (.int .i64 0)) = w30 at n0_ n1_ n2_ n3_ n4_ n5_ ⊢
   have HO212 := n0_
   have HO215 := n1_
   have HO218 := n2_
   have BK209 := n3_
   have BK219 := n4_
   have HB := n5_
   clear n0_ n1_ n2_ n3_ n4_ n5_
   have n0_ := Aside0.mk (Kd.R_drew HO212.out)
   have n1_ := Aside0.mk (Kd.R_drew HO215.out)
   have n2_ := Aside0.mk (Kd.R_drew HO218.out)
   have n3_ := Aside0.mk (blk_drew BK209.out)
   have n4_ := Aside0.mk (blk_drew BK219.out)
   have n5_ := Aside0.mk (below_drew1 HB.out)
   clear HO212 HO215 HO218 BK209 BK219 HB
   have HO212 := n0_
   have HO215 := n1_
   have HO218 := n2_
   have BK209 := n3_
   have BK219 := n4_
   have HB := n5_
   clear n0_ n1_ n2_ n3_ n4_ n5_
   refine start_ (n := 6) (S := fun w' => w'.cell? ⟨gb219, 0, none⟩ = some (.slice Ao19 y210.length co19) ∧ w'.cell? ⟨gb219, 1, none⟩ = some (.int .i64 0) ∧ w'.cell? ⟨gb219, 2, none⟩ = some (.bool false) ∧ w'.cell? ⟨gb219, 3, none⟩ = some (.int .i64 0) ∧ w'.cell? ⟨gb219, 4, none⟩ = some (.int .i64 0) ∧ w'.cell? ⟨gb219, 5, none⟩ = some (.int .i64 0) ∧ w'.cell? ⟨gb219, 6, none⟩ = some (.int .i64 0) ∧ w'.cell? ⟨gb219, 7, none⟩ = some (.slice Ao18 t213.length co18) ∧ w'.cell? ⟨gb219, 8, none⟩ = some (.slice Ao17 t216.length co17) ∧ w'.cell? ⟨gb219, 9, none⟩ = some (.int .i64 0)) (ds := [5]) #[false, false, false, false, false, false] (by kernel_rfl) rfl rfl (c10e BK219) (fun hHeld => ?_)
   generalize w30.drew = w31 at HO212 HO215 HO218 BK209 BK219 HB hHeld ⊢
   refine pure_ (i := 0) (N := some 5) (v := ?_) (a' := ?_) #[true, false, false, false, false, false] rfl rfl (by kernel_rfl) (fun _ _ _ h => h) (Or.inl ⟨by rfl, ?_⟩) ?_ ?_
   rotate_left
   ·intro w'
    go_simp
    with_reducible rfl
   rotate_left
   ·simp only [Act.put, List.setIfInBounds_toArray, List.set_cons_zero, List.set_cons_succ, i64_w, i32_w]
    rfl
   refine pure_ (i := 2) (N := some 7) (v := ?_) (a' := ?_) #[true, false, true, false, false, false] rfl rfl (by kernel_rfl) (fun _ _ _ h => h) (Or.inl ⟨by rfl, ?_⟩) ?_ ?_
   rotate_left
   ·intro w'
    go_simp
    with_reducible rfl
   rotate_left
   ·simp only [Act.put, List.setIfInBounds_toArray, List.set_cons_zero, List.set_cons_succ, i64_w, i32_w]
    rfl
   refine take_ (i := 1) (N := some 6) (v := ?_) (a' := ?_) #[true, true, true, false, false, false] rfl rfl (by kernel_rfl) (fun _ _ _ h => h) (Or.inl ⟨by rfl, ?_⟩) hHeld ?_ ?_
   rotate_left
   ·rintro w' ⟨s0, s1, s2, s3, s4, s5, s6, s7, s8, s9⟩
    go_simp
    with_reducible rfl
   rotate_left
   ·simp only [Act.put, List.setIfInBounds_toArray, List.set_cons_zero, List.set_cons_succ, i64_w, i32_w]
    rfl
   refine one_ (i := 3) (N := some 8) #[true, true, true, true, false, false] rfl rfl (by kernel_rfl) (by decide) (fun K hK => ?_)
   refine goesR Try.func71 (by kernel_rfl) rfl #[.agg #[.int .i64 0, .int .i64 24, .int .i64 59, .int .i64 0], .int .i64 0] (by rfl) rfl rfl ?_
   with_reducible refine (impl_KeyWord.calls k 0 24 59 0 0 t220 t221 t222 t223 t224 t225 _ A3.out).mono ?_
   rintro e w32 ⟨rfl, hb⟩
   refine ⟨_, rfl, ?_⟩
   have n0_ := nR HO212 hb
   have n1_ := nR HO215 hb
   have n2_ := nR HO218 hb
   have n3_ := nblk BK209 hb
   have n4_ := nblk BK219 hb
   have n5_ := nbs HB hb
   clear HO212 HO215 HO218 BK209 BK219 HB
   have HO212 := n0_
   have HO215 := n1_
   have HO218 := n2_
   have BK209 := n3_
   have BK219 := n4_
   have HB := n5_
   clear n0_ n1_ n2_ n3_ n4_ n5_
   (try clear hb)
   have p5 : 0 ≤ (0 : Int) := (by omega)
   have q5 : (0 : Int) < ((y210.length : Int) : Int) := of_decide_eq_true (by first | (with_reducible assumption) | assumption)
   have qi5 : (0 < y210.length) = True := eq_true (by omega)
   obtain ⟨go5, co5, eo5, gb5, gl5, cl5, HG5⟩ := Kd.R_form HO212.out (by omega)
   (first | cases eo5 | (injection eo5 with ea_ en_ ec_; (first | subst ea_ | (injection ea_ with ea_; subst ea_)); subst ec_; clear en_))
   have GB5 := Aside0.mk gb5
   have GG5 := Aside0.mk HG5
   clear gb5 gl5 HG5
   obtain ⟨ce5, hcl5, hM5, hcc5, hfr5⟩ := Kd.R_elem HO212.out z33 (0 : Int) p5 q5
   obtain rfl := k33_openM hM5
   have hx5_0 : World.cell? _ ⟨go5, (0 : Int).toNat * 6, none⟩ = some (.int .i64 ((rd_T33 y210 0).f0)) := hcc5 0 _ rfl
   have hx5_1 : World.cell? _ ⟨go5, (0 : Int).toNat * 6 + 1, none⟩ = some (.bool ((rd_T33 y210 0).f1)) := hcc5 1 _ rfl
   have hx5_2 : World.cell? _ ⟨go5, (0 : Int).toNat * 6 + 2, none⟩ = some (.int .i64 ((rd_T33 y210 0).f2.f0)) := hcc5 2 _ rfl
   have hx5_3 : World.cell? _ ⟨go5, (0 : Int).toNat * 6 + 3, none⟩ = some (.int .i64 ((rd_T33 y210 0).f2.f1)) := hcc5 3 _ rfl
   have hx5_4 : World.cell? _ ⟨go5, (0 : Int).toNat * 6 + 4, none⟩ = some (.int .i64 ((rd_T33 y210 0).f2.f2)) := hcc5 4 _ rfl
   have hx5_5 : World.cell? _ ⟨go5, (0 : Int).toNat * 6 + 5, none⟩ = some (.int .i64 ((rd_T33 y210 0).f2.f3)) := hcc5 5 _ rfl
   have hf5_0 : World.frozen? _ ⟨go5, (0 : Int).toNat * 6, none⟩ = false := hfr5 0
   have hf5_1 : World.frozen? _ ⟨go5, (0 : Int).toNat * 6 + 1, none⟩ = false := hfr5 1
   have hf5_2 : World.frozen? _ ⟨go5, (0 : Int).toNat * 6 + 2, none⟩ = false := hfr5 2
   have hf5_3 : World.frozen? _ ⟨go5, (0 : Int).toNat * 6 + 3, none⟩ = false := hfr5 3
   have hf5_4 : World.frozen? _ ⟨go5, (0 : Int).toNat * 6 + 4, none⟩ = false := hfr5 4
   have hf5_5 : World.frozen? _ ⟨go5, (0 : Int).toNat * 6 + 5, none⟩ = false := hfr5 5
   clear hcl5 hcc5 hfr5 hM5
   (try rw [show ((0 : Int)).toNat = 0 from rfl] at hx5_0)
   (try simp only [Nat.reduceMul, Nat.zero_mul, Nat.zero_add, Nat.reduceAdd] at hx5_0)
   (try rw [show ((0 : Int)).toNat = 0 from rfl] at hf5_0)
   (try simp only [Nat.reduceMul, Nat.zero_mul, Nat.zero_add, Nat.reduceAdd] at hf5_0)
   (try rw [show ((0 : Int)).toNat = 0 from rfl] at hx5_1)
   (try simp only [Nat.reduceMul, Nat.zero_mul, Nat.zero_add, Nat.reduceAdd] at hx5_1)
   (try rw [show ((0 : Int)).toNat = 0 from rfl] at hf5_1)
   (try simp only [Nat.reduceMul, Nat.zero_mul, Nat.zero_add, Nat.reduceAdd] at hf5_1)
   (try rw [show ((0 : Int)).toNat = 0 from rfl] at hx5_2)
   (try simp only [Nat.reduceMul, Nat.zero_mul, Nat.zero_add, Nat.reduceAdd] at hx5_2)
   (try rw [show ((0 : Int)).toNat = 0 from rfl] at hf5_2)
   (try simp only [Nat.reduceMul, Nat.zero_mul, Nat.zero_add, Nat.reduceAdd] at hf5_2)
   (try rw [show ((0 : Int)).toNat = 0 from rfl] at hx5_3)
   (try simp only [Nat.reduceMul, Nat.zero_mul, Nat.zero_add, Nat.reduceAdd] at hx5_3)
   (try rw [show ((0 : Int)).toNat = 0 from rfl] at hf5_3)
   (try simp only [Nat.reduceMul, Nat.zero_mul, Nat.zero_add, Nat.reduceAdd] at hf5_3)
   (try rw [show ((0 : Int)).toNat = 0 from rfl] at hx5_4)
   (try simp only [Nat.reduceMul, Nat.zero_mul, Nat.zero_add, Nat.reduceAdd] at hx5_4)
   (try rw [show ((0 : Int)).toNat = 0 from rfl] at hf5_4)
   (try simp only [Nat.reduceMul, Nat.zero_mul, Nat.zero_add, Nat.reduceAdd] at hf5_4)
   (try rw [show ((0 : Int)).toNat = 0 from rfl] at hx5_5)
   (try simp only [Nat.reduceMul, Nat.zero_mul, Nat.zero_add, Nat.reduceAdd] at hx5_5)
   (try rw [show ((0 : Int)).toNat = 0 from rfl] at hf5_5)
   (try simp only [Nat.reduceMul, Nat.zero_mul, Nat.zero_add, Nat.reduceAdd] at hf5_5)
   replace p5 := eq_true p5
   replace q5 := eq_true q5
   obtain ⟨ce33, hcl33, hM33, hcc33, hfr33⟩ := Kd.R_elem HO212.out z33 (0 : Int) (by omega) (by have h_ : (0 : Int) < ((y210.length : Int) : Int) := of_decide_eq_true (by first | (with_reducible assumption) | assumption); first | exact h_ | (have e_ := (Kd.R_reads' HO212.out).1; omega) | simpa using h_)
   obtain rfl := k33_openM hM33
   have HP33 := (Kd.R_seg HO212.out (0 : Int) (by omega) (by have h_ : (0 : Int) < ((y210.length : Int) : Int) := of_decide_eq_true (by first | (with_reducible assumption) | assumption); first | exact h_ | (have e_ := (Kd.R_reads' HO212.out).1; omega) | simpa using h_) (seg := [.int .i64 t220, .bool t221, .int .i64 t222, .int .i64 t223, .int .i64 t224, .int .i64 t225]) (j := 0) hcl33 hcc33 (show 6 ≤ 6 from by decide) (x' := (⟨t220, t221, (⟨t222, t223, t224, t225⟩ : S31)⟩ : S33)) (k33_mkM _ _ _ (⟨t220, t221, (⟨t222, t223, t224, t225⟩ : S31)⟩ : S33) ) (fun _ hk => hk)).1
   rw [← Ny226.out] at HP33
   have HQ33 := Aside0.mk HP33
   clear hcl33 hcc33 hfr33 hM33 HP33
   refine hK.out _ _ (c10e BK219) (fun hHeld => ?_)
   clear hK K
   refine norm_ (a' := ?_) ?_ ?_
   rotate_left
   ·show Act.put _ (some 8) _ = _
    simp only [Act.put, List.setIfInBounds_toArray, List.set_cons_zero, List.set_cons_succ, i64_w, i32_w]
    rfl
   refine pure_ (i := 4) (N := some 9) (v := ?_) (a' := ?_) #[true, true, true, true, true, false] rfl rfl (by kernel_rfl) (fun _ _ _ h => h) (Or.inl ⟨by rfl, ?_⟩) ?_ ?_
   rotate_left
   ·intro w'
    go_simp
    with_reducible rfl
   rotate_left
   ·simp only [Act.put, List.setIfInBounds_toArray, List.set_cons_zero, List.set_cons_succ, i64_w, i32_w]
    rfl
   refine last_ (i := 5) (N := none) #[true, true, true, true, true, true] rfl rfl (by kernel_rfl) (by decide) (fun K hK => ?_)
   refine skip_ (w1 := ?_) (by rfl) rfl ?_ ?_
   rotate_left
   ·go_simp
    rfl
   refine hK.out _ _ ?_
   clear hK K
   refine done_ (by kernel_rfl) ?_
   have n0_ : Aside0 (Kd.R k33 33 ((((((w32.setCell ⟨go5, 0, none⟩ (.int .i64 t220)).setCell ⟨go5, 1, none⟩ (.bool t221)).setCell ⟨go5, 2, none⟩ (.int .i64 t222)).setCell ⟨go5, 3, none⟩ (.int .i64 t223)).setCell ⟨go5, 4, none⟩ (.int .i64 t224)).setCell ⟨go5, 5, none⟩ (.int .i64 t225)) w.heap.size (fun k_ => some k_ ≠ (.slice Ao18 t213.length co18 : Value).ownBlock) (.slice (some ⟨go5, 0, none⟩) y210.length co19) y226) := ⟨by (with_reducible repeat (first | apply Kd.R_alloc | apply Kd.R_drewN | apply Kd.R_drew)); exact HQ33.out⟩
   have n1_ : Aside0 (Kd.R k33 33 ((((((w32.setCell ⟨go5, 0, none⟩ (.int .i64 t220)).setCell ⟨go5, 1, none⟩ (.bool t221)).setCell ⟨go5, 2, none⟩ (.int .i64 t222)).setCell ⟨go5, 3, none⟩ (.int .i64 t223)).setCell ⟨go5, 4, none⟩ (.int .i64 t224)).setCell ⟨go5, 5, none⟩ (.int .i64 t225)) w.heap.size (fun k_ => some k_ ≠ (.slice (some ⟨go5, 0, none⟩) y210.length co19 : Value).ownBlock) (.slice Ao18 t213.length co18) t213) := ⟨by (with_reducible repeat (first | apply Kd.R_alloc | apply Kd.R_drewN | apply Kd.R_drew)); exact Kd.R_mono (Kd.R_far (p := ⟨go5, 5, none⟩) (Kd.R_far (p := ⟨go5, 4, none⟩) (Kd.R_far (p := ⟨go5, 3, none⟩) (Kd.R_far (p := ⟨go5, 2, none⟩) (Kd.R_far (p := ⟨go5, 1, none⟩) (Kd.R_far (p := ⟨go5, 0, none⟩) (Kd.R_mono HO215.out (fun k_ hk => (⟨hk, fun e_ => hk (by rw [e_]; rfl)⟩ : _ ∧ k_ ≠ go5))) (fun _ hk => hk.2) (.int .i64 t220)) (fun _ hk => hk.2) (.bool t221)) (fun _ hk => hk.2) (.int .i64 t222)) (fun _ hk => hk.2) (.int .i64 t223)) (fun _ hk => hk.2) (.int .i64 t224)) (fun _ hk => hk.2) (.int .i64 t225)) (fun _ hk => hk.1)⟩
   have n2_ : Aside0 (Kd.R Kd.bool 4 ((((((w32.setCell ⟨go5, 0, none⟩ (.int .i64 t220)).setCell ⟨go5, 1, none⟩ (.bool t221)).setCell ⟨go5, 2, none⟩ (.int .i64 t222)).setCell ⟨go5, 3, none⟩ (.int .i64 t223)).setCell ⟨go5, 4, none⟩ (.int .i64 t224)).setCell ⟨go5, 5, none⟩ (.int .i64 t225)) w.heap.size (fun _ => True) (.slice Ao17 t216.length co17) t216) := ⟨by (with_reducible repeat (first | apply Kd.R_alloc | apply Kd.R_drewN | apply Kd.R_drew)); exact Kd.R_mono (Kd.R_far (p := ⟨go5, 5, none⟩) (Kd.R_far (p := ⟨go5, 4, none⟩) (Kd.R_far (p := ⟨go5, 3, none⟩) (Kd.R_far (p := ⟨go5, 2, none⟩) (Kd.R_far (p := ⟨go5, 1, none⟩) (Kd.R_far (p := ⟨go5, 0, none⟩) (Kd.R_types HO218.out GG5.out (by decide)) (fun _ hk => hk.2) (.int .i64 t220)) (fun _ hk => hk.2) (.bool t221)) (fun _ hk => hk.2) (.int .i64 t222)) (fun _ hk => hk.2) (.int .i64 t223)) (fun _ hk => hk.2) (.int .i64 t224)) (fun _ hk => hk.2) (.int .i64 t225)) (fun _ hk => trivial)⟩
   have n3_ : Aside0 (((((((w32.setCell ⟨go5, 0, none⟩ (.int .i64 t220)).setCell ⟨go5, 1, none⟩ (.bool t221)).setCell ⟨go5, 2, none⟩ (.int .i64 t222)).setCell ⟨go5, 3, none⟩ (.int .i64 t223)).setCell ⟨go5, 4, none⟩ (.int .i64 t224)).setCell ⟨go5, 5, none⟩ (.int .i64 t225)).heap[gb209]? = some (.cells #[.slice none 0 0, .int .i64 0, .bool false, .int .i64 0, .int .i64 0, .int .i64 0, .int .i64 0, .slice none 0 0, .slice none 0 0, .int .i64 0] 57 (0, 0))) := ⟨by (with_reducible repeat (first | refine blk_drewN ?_ _ | refine blk_drew ?_ | refine blk_alloc ?_ _)); refine blk_far ?_ (by have h_ := Kd.R_ne HO212.out BK209.out (by decide); intro e_; exact h_ (by rw [e_]; rfl)) _; (with_reducible repeat (first | refine blk_drewN ?_ _ | refine blk_drew ?_ | refine blk_alloc ?_ _)); refine blk_far ?_ (by have h_ := Kd.R_ne HO212.out BK209.out (by decide); intro e_; exact h_ (by rw [e_]; rfl)) _; (with_reducible repeat (first | refine blk_drewN ?_ _ | refine blk_drew ?_ | refine blk_alloc ?_ _)); refine blk_far ?_ (by have h_ := Kd.R_ne HO212.out BK209.out (by decide); intro e_; exact h_ (by rw [e_]; rfl)) _; (with_reducible repeat (first | refine blk_drewN ?_ _ | refine blk_drew ?_ | refine blk_alloc ?_ _)); refine blk_far ?_ (by have h_ := Kd.R_ne HO212.out BK209.out (by decide); intro e_; exact h_ (by rw [e_]; rfl)) _; (with_reducible repeat (first | refine blk_drewN ?_ _ | refine blk_drew ?_ | refine blk_alloc ?_ _)); refine blk_far ?_ (by have h_ := Kd.R_ne HO212.out BK209.out (by decide); intro e_; exact h_ (by rw [e_]; rfl)) _; (with_reducible repeat (first | refine blk_drewN ?_ _ | refine blk_drew ?_ | refine blk_alloc ?_ _)); refine blk_far ?_ (by have h_ := Kd.R_ne HO212.out BK209.out (by decide); intro e_; exact h_ (by rw [e_]; rfl)) _; (with_reducible repeat (first | refine blk_drewN ?_ _ | refine blk_drew ?_ | refine blk_alloc ?_ _)); exact BK209.out⟩
   have n4_ : Aside0 (((((((w32.setCell ⟨go5, 0, none⟩ (.int .i64 t220)).setCell ⟨go5, 1, none⟩ (.bool t221)).setCell ⟨go5, 2, none⟩ (.int .i64 t222)).setCell ⟨go5, 3, none⟩ (.int .i64 t223)).setCell ⟨go5, 4, none⟩ (.int .i64 t224)).setCell ⟨go5, 5, none⟩ (.int .i64 t225)).heap[gb219]? = some (.cells #[.slice (some ⟨go5, 0, none⟩) y210.length co19, .int .i64 0, .bool false, .int .i64 0, .int .i64 0, .int .i64 0, .int .i64 0, .slice Ao18 t213.length co18, .slice Ao17 t216.length co17, .int .i64 0] 57 (0, 0))) := ⟨by (with_reducible repeat (first | refine blk_drewN ?_ _ | refine blk_drew ?_ | refine blk_alloc ?_ _)); refine blk_far ?_ (by have h_ := Kd.R_ne HO212.out BK219.out (by decide); intro e_; exact h_ (by rw [e_]; rfl)) _; (with_reducible repeat (first | refine blk_drewN ?_ _ | refine blk_drew ?_ | refine blk_alloc ?_ _)); refine blk_far ?_ (by have h_ := Kd.R_ne HO212.out BK219.out (by decide); intro e_; exact h_ (by rw [e_]; rfl)) _; (with_reducible repeat (first | refine blk_drewN ?_ _ | refine blk_drew ?_ | refine blk_alloc ?_ _)); refine blk_far ?_ (by have h_ := Kd.R_ne HO212.out BK219.out (by decide); intro e_; exact h_ (by rw [e_]; rfl)) _; (with_reducible repeat (first | refine blk_drewN ?_ _ | refine blk_drew ?_ | refine blk_alloc ?_ _)); refine blk_far ?_ (by have h_ := Kd.R_ne HO212.out BK219.out (by decide); intro e_; exact h_ (by rw [e_]; rfl)) _; (with_reducible repeat (first | refine blk_drewN ?_ _ | refine blk_drew ?_ | refine blk_alloc ?_ _)); refine blk_far ?_ (by have h_ := Kd.R_ne HO212.out BK219.out (by decide); intro e_; exact h_ (by rw [e_]; rfl)) _; (with_reducible repeat (first | refine blk_drewN ?_ _ | refine blk_drew ?_ | refine blk_alloc ?_ _)); refine blk_far ?_ (by have h_ := Kd.R_ne HO212.out BK219.out (by decide); intro e_; exact h_ (by rw [e_]; rfl)) _; (with_reducible repeat (first | refine blk_drewN ?_ _ | refine blk_drew ?_ | refine blk_alloc ?_ _)); exact BK219.out⟩
   have n5_ : Aside0 (Below w.heap.size w ((((((w32.setCell ⟨go5, 0, none⟩ (.int .i64 t220)).setCell ⟨go5, 1, none⟩ (.bool t221)).setCell ⟨go5, 2, none⟩ (.int .i64 t222)).setCell ⟨go5, 3, none⟩ (.int .i64 t223)).setCell ⟨go5, 4, none⟩ (.int .i64 t224)).setCell ⟨go5, 5, none⟩ (.int .i64 t225))) := ⟨by repeat (first | (with_reducible first | exact HB.out | apply below_alloc | apply pw_below_drewN | apply below_drew1 | refine below_set ?_ GB5.out | refine below_set ?_ GB5.out | refine below_set ?_ GB5.out | refine below_set ?_ GB5.out | refine below_set ?_ GB5.out | refine below_set ?_ GB5.out | refine below_set ?_ GE209.out | refine below_set ?_ GE219.out) | exact HB.out)⟩
   (try clear HO212)
   (try clear HO215)
   (try clear HO218)
   (try clear BK209)
   (try clear BK219)
   (try clear HB)
   generalize ((((((w32.setCell ⟨go5, 0, none⟩ (.int .i64 t220)).setCell ⟨go5, 1, none⟩ (.bool t221)).setCell ⟨go5, 2, none⟩ (.int .i64 t222)).setCell ⟨go5, 3, none⟩ (.int .i64 t223)).setCell ⟨go5, 4, none⟩ (.int .i64 t224)).setCell ⟨go5, 5, none⟩ (.int .i64 t225)) = w34 at n0_ n1_ n2_ n3_ n4_ n5_ ⊢
   have HO212 := n0_
   have HO215 := n1_
   have HO218 := n2_
   have BK209 := n3_
   have BK219 := n4_
   have HB := n5_
   clear n0_ n1_ n2_ n3_ n4_ n5_
   try go_wp2_with (first | ((with_reducible refine gate_callee (f := 71) rfl ?_); refine goesM (some 11) rfl rfl Try.func71 (by kernel_rfl) rfl #[.agg #[.int .i64 0, .int .i64 48, .int .i64 4, .int .i64 0], .int .i64 0] rfl ?_; (with_reducible refine (impl_KeyWord.calls k 0 48 4 0 0 t227 t228 t229 t230 t231 t232 _ A6.out).mono ?_); rintro e w35 ⟨rfl, hb⟩; refine ⟨_, rfl, ?_⟩; have n0_ := nR HO212 hb; have n1_ := nR HO215 hb; have n2_ := nR HO218 hb; have n3_ := nblk BK209 hb; have n4_ := nblk BK219 hb; have n5_ := nbs HB hb; clear HO212 HO215 HO218 BK209 BK219 HB; have HO212 := n0_; have HO215 := n1_; have HO218 := n2_; have BK209 := n3_; have BK219 := n4_; have HB := n5_; clear n0_ n1_ n2_ n3_ n4_ n5_; (try clear hb); have hnb36 := NB219_209.out; have hnc36 := NB209_219.out; obtain ⟨hcz37_0, hcz37_1, hcz37_2, hcz37_3, hcz37_4, hcz37_5, hcz37_6, hcz37_7, hcz37_8, hcz37_9⟩ := c10e BK219; have hfz37_0 := blk_frozen BK219.out 0; have hfz37_1 := blk_frozen BK219.out 1; have hfz37_2 := blk_frozen BK219.out 2; have hfz37_3 := blk_frozen BK219.out 3; have hfz37_4 := blk_frozen BK219.out 4; have hfz37_5 := blk_frozen BK219.out 5; have hfz37_6 := blk_frozen BK219.out 6; have hfz37_7 := blk_frozen BK219.out 7; have hfz37_8 := blk_frozen BK219.out 8; have hfz37_9 := blk_frozen BK219.out 9; obtain ⟨hcz38_0, hcz38_1, hcz38_2, hcz38_3, hcz38_4, hcz38_5, hcz38_6, hcz38_7, hcz38_8, hcz38_9⟩ := c10e BK209; have hfz38_0 := blk_frozen BK209.out 0; have hfz38_1 := blk_frozen BK209.out 1; have hfz38_2 := blk_frozen BK209.out 2; have hfz38_3 := blk_frozen BK209.out 3; have hfz38_4 := blk_frozen BK209.out 4; have hfz38_5 := blk_frozen BK209.out 5; have hfz38_6 := blk_frozen BK209.out 6; have hfz38_7 := blk_frozen BK209.out 7; have hfz38_8 := blk_frozen BK209.out 8; have hfz38_9 := blk_frozen BK209.out 9))
   refine bodyPost_ret (results_cell_row rfl _ _ gb209 57 #[.slice (some ⟨go5, 0, none⟩) y210.length co19, .int .i64 t227, .bool t228, .int .i64 t229, .int .i64 t230, .int .i64 t231, .int .i64 t232, .slice Ao18 t213.length co18, .slice Ao17 t216.length co17, .int .i64 0] (0, 0) _ rfl (by (with_reducible repeat (first | refine blk_drewN ?_ _ | refine blk_drew ?_ | refine blk_alloc ?_ _)); refine blk_put (cs := #[.slice (some ⟨go5, 0, none⟩) y210.length co19, .int .i64 t227, .bool t228, .int .i64 t229, .int .i64 t230, .int .i64 t231, .int .i64 t232, .slice Ao18 t213.length co18, .slice Ao17 t216.length co17, .int .i64 0]) ?_ 9 _ rfl; (with_reducible repeat (first | refine blk_drewN ?_ _ | refine blk_drew ?_ | refine blk_alloc ?_ _)); refine blk_put (cs := #[.slice (some ⟨go5, 0, none⟩) y210.length co19, .int .i64 t227, .bool t228, .int .i64 t229, .int .i64 t230, .int .i64 t231, .int .i64 t232, .slice Ao18 t213.length co18, .slice none 0 0, .int .i64 0]) ?_ 8 _ rfl; (with_reducible repeat (first | refine blk_drewN ?_ _ | refine blk_drew ?_ | refine blk_alloc ?_ _)); refine blk_put (cs := #[.slice (some ⟨go5, 0, none⟩) y210.length co19, .int .i64 t227, .bool t228, .int .i64 t229, .int .i64 t230, .int .i64 t231, .int .i64 t232, .slice none 0 0, .slice none 0 0, .int .i64 0]) ?_ 7 _ rfl; (with_reducible repeat (first | refine blk_drewN ?_ _ | refine blk_drew ?_ | refine blk_alloc ?_ _)); refine blk_put (cs := #[.slice (some ⟨go5, 0, none⟩) y210.length co19, .int .i64 t227, .bool t228, .int .i64 t229, .int .i64 t230, .int .i64 t231, .int .i64 0, .slice none 0 0, .slice none 0 0, .int .i64 0]) ?_ 6 _ rfl; (with_reducible repeat (first | refine blk_drewN ?_ _ | refine blk_drew ?_ | refine blk_alloc ?_ _)); refine blk_put (cs := #[.slice (some ⟨go5, 0, none⟩) y210.length co19, .int .i64 t227, .bool t228, .int .i64 t229, .int .i64 t230, .int .i64 0, .int .i64 0, .slice none 0 0, .slice none 0 0, .int .i64 0]) ?_ 5 _ rfl; (with_reducible repeat (first | refine blk_drewN ?_ _ | refine blk_drew ?_ | refine blk_alloc ?_ _)); refine blk_put (cs := #[.slice (some ⟨go5, 0, none⟩) y210.length co19, .int .i64 t227, .bool t228, .int .i64 t229, .int .i64 0, .int .i64 0, .int .i64 0, .slice none 0 0, .slice none 0 0, .int .i64 0]) ?_ 4 _ rfl; (with_reducible repeat (first | refine blk_drewN ?_ _ | refine blk_drew ?_ | refine blk_alloc ?_ _)); refine blk_put (cs := #[.slice (some ⟨go5, 0, none⟩) y210.length co19, .int .i64 t227, .bool t228, .int .i64 0, .int .i64 0, .int .i64 0, .int .i64 0, .slice none 0 0, .slice none 0 0, .int .i64 0]) ?_ 3 _ rfl; (with_reducible repeat (first | refine blk_drewN ?_ _ | refine blk_drew ?_ | refine blk_alloc ?_ _)); refine blk_put (cs := #[.slice (some ⟨go5, 0, none⟩) y210.length co19, .int .i64 t227, .bool false, .int .i64 0, .int .i64 0, .int .i64 0, .int .i64 0, .slice none 0 0, .slice none 0 0, .int .i64 0]) ?_ 2 _ rfl; (with_reducible repeat (first | refine blk_drewN ?_ _ | refine blk_drew ?_ | refine blk_alloc ?_ _)); refine blk_put (cs := #[.slice (some ⟨go5, 0, none⟩) y210.length co19, .int .i64 0, .bool false, .int .i64 0, .int .i64 0, .int .i64 0, .int .i64 0, .slice none 0 0, .slice none 0 0, .int .i64 0]) ?_ 1 _ rfl; (with_reducible repeat (first | refine blk_drewN ?_ _ | refine blk_drew ?_ | refine blk_alloc ?_ _)); refine blk_put (cs := #[.slice none 0 0, .int .i64 0, .bool false, .int .i64 0, .int .i64 0, .int .i64 0, .int .i64 0, .slice none 0 0, .slice none 0 0, .int .i64 0]) ?_ 0 _ rfl; (with_reducible repeat (first | refine blk_drewN ?_ _ | refine blk_drew ?_ | refine blk_alloc ?_ _)); refine blk_far ?_ NB209_219.out _; (with_reducible repeat (first | refine blk_drewN ?_ _ | refine blk_drew ?_ | refine blk_alloc ?_ _)); refine blk_far ?_ NB209_219.out _; (with_reducible repeat (first | refine blk_drewN ?_ _ | refine blk_drew ?_ | refine blk_alloc ?_ _)); refine blk_far ?_ NB209_219.out _; (with_reducible repeat (first | refine blk_drewN ?_ _ | refine blk_drew ?_ | refine blk_alloc ?_ _)); refine blk_far ?_ NB209_219.out _; (with_reducible repeat (first | refine blk_drewN ?_ _ | refine blk_drew ?_ | refine blk_alloc ?_ _)); refine blk_far ?_ NB209_219.out _; (with_reducible repeat (first | refine blk_drewN ?_ _ | refine blk_drew ?_ | refine blk_alloc ?_ _)); refine blk_far ?_ NB209_219.out _; (with_reducible repeat (first | refine blk_drewN ?_ _ | refine blk_drew ?_ | refine blk_alloc ?_ _)); exact BK209.out) Try.underlying57 rfl (by kernel_rfl)) rfl ?_
   exact ⟨_, _, _, by first | rfl | (simp [errW_none, errW_some] <;> rfl) | (simp [*, errW_none, errW_some] <;> rfl), by (with_reducible repeat (first | apply Kd.R_alloc | apply Kd.R_drewN | apply Kd.R_drew)); exact Kd.R_mono (Kd.R_far (p := ⟨gb209, 9, none⟩) (Kd.R_far (p := ⟨gb209, 8, none⟩) (Kd.R_far (p := ⟨gb209, 7, none⟩) (Kd.R_far (p := ⟨gb209, 6, none⟩) (Kd.R_far (p := ⟨gb209, 5, none⟩) (Kd.R_far (p := ⟨gb209, 4, none⟩) (Kd.R_far (p := ⟨gb209, 3, none⟩) (Kd.R_far (p := ⟨gb209, 2, none⟩) (Kd.R_far (p := ⟨gb209, 1, none⟩) (Kd.R_far (p := ⟨gb209, 0, none⟩) (Kd.R_far (p := ⟨gb219, 6, none⟩) (Kd.R_far (p := ⟨gb219, 5, none⟩) (Kd.R_far (p := ⟨gb219, 4, none⟩) (Kd.R_far (p := ⟨gb219, 3, none⟩) (Kd.R_far (p := ⟨gb219, 2, none⟩) (Kd.R_far (p := ⟨gb219, 1, none⟩) (Kd.R_types (Kd.R_types HO212.out BK219.out (by decide)) BK209.out (by decide)) (fun _ hk => hk.1.2) (.int .i64 t227)) (fun _ hk => hk.1.2) (.bool t228)) (fun _ hk => hk.1.2) (.int .i64 t229)) (fun _ hk => hk.1.2) (.int .i64 t230)) (fun _ hk => hk.1.2) (.int .i64 t231)) (fun _ hk => hk.1.2) (.int .i64 t232)) (fun _ hk => hk.2) (.slice (some ⟨go5, 0, none⟩) y210.length co19)) (fun _ hk => hk.2) (.int .i64 t227)) (fun _ hk => hk.2) (.bool t228)) (fun _ hk => hk.2) (.int .i64 t229)) (fun _ hk => hk.2) (.int .i64 t230)) (fun _ hk => hk.2) (.int .i64 t231)) (fun _ hk => hk.2) (.int .i64 t232)) (fun _ hk => hk.2) (.slice Ao18 t213.length co18)) (fun _ hk => hk.2) (.slice Ao17 t216.length co17)) (fun _ hk => hk.2) (.int .i64 0)) (fun _ hk => hk.1.1), by (with_reducible repeat (first | apply Kd.R_alloc | apply Kd.R_drewN | apply Kd.R_drew)); exact Kd.R_mono (Kd.R_far (p := ⟨gb209, 9, none⟩) (Kd.R_far (p := ⟨gb209, 8, none⟩) (Kd.R_far (p := ⟨gb209, 7, none⟩) (Kd.R_far (p := ⟨gb209, 6, none⟩) (Kd.R_far (p := ⟨gb209, 5, none⟩) (Kd.R_far (p := ⟨gb209, 4, none⟩) (Kd.R_far (p := ⟨gb209, 3, none⟩) (Kd.R_far (p := ⟨gb209, 2, none⟩) (Kd.R_far (p := ⟨gb209, 1, none⟩) (Kd.R_far (p := ⟨gb209, 0, none⟩) (Kd.R_far (p := ⟨gb219, 6, none⟩) (Kd.R_far (p := ⟨gb219, 5, none⟩) (Kd.R_far (p := ⟨gb219, 4, none⟩) (Kd.R_far (p := ⟨gb219, 3, none⟩) (Kd.R_far (p := ⟨gb219, 2, none⟩) (Kd.R_far (p := ⟨gb219, 1, none⟩) (Kd.R_types (Kd.R_types HO215.out BK219.out (by decide)) BK209.out (by decide)) (fun _ hk => hk.1.2) (.int .i64 t227)) (fun _ hk => hk.1.2) (.bool t228)) (fun _ hk => hk.1.2) (.int .i64 t229)) (fun _ hk => hk.1.2) (.int .i64 t230)) (fun _ hk => hk.1.2) (.int .i64 t231)) (fun _ hk => hk.1.2) (.int .i64 t232)) (fun _ hk => hk.2) (.slice (some ⟨go5, 0, none⟩) y210.length co19)) (fun _ hk => hk.2) (.int .i64 t227)) (fun _ hk => hk.2) (.bool t228)) (fun _ hk => hk.2) (.int .i64 t229)) (fun _ hk => hk.2) (.int .i64 t230)) (fun _ hk => hk.2) (.int .i64 t231)) (fun _ hk => hk.2) (.int .i64 t232)) (fun _ hk => hk.2) (.slice Ao18 t213.length co18)) (fun _ hk => hk.2) (.slice Ao17 t216.length co17)) (fun _ hk => hk.2) (.int .i64 0)) (fun _ hk => hk.1.1), by (with_reducible repeat (first | apply Kd.R_alloc | apply Kd.R_drewN | apply Kd.R_drew)); exact Kd.R_mono (Kd.R_far (p := ⟨gb209, 9, none⟩) (Kd.R_far (p := ⟨gb209, 8, none⟩) (Kd.R_far (p := ⟨gb209, 7, none⟩) (Kd.R_far (p := ⟨gb209, 6, none⟩) (Kd.R_far (p := ⟨gb209, 5, none⟩) (Kd.R_far (p := ⟨gb209, 4, none⟩) (Kd.R_far (p := ⟨gb209, 3, none⟩) (Kd.R_far (p := ⟨gb209, 2, none⟩) (Kd.R_far (p := ⟨gb209, 1, none⟩) (Kd.R_far (p := ⟨gb209, 0, none⟩) (Kd.R_far (p := ⟨gb219, 6, none⟩) (Kd.R_far (p := ⟨gb219, 5, none⟩) (Kd.R_far (p := ⟨gb219, 4, none⟩) (Kd.R_far (p := ⟨gb219, 3, none⟩) (Kd.R_far (p := ⟨gb219, 2, none⟩) (Kd.R_far (p := ⟨gb219, 1, none⟩) (Kd.R_types (Kd.R_types HO218.out BK219.out (by decide)) BK209.out (by decide)) (fun _ hk => hk.1.2) (.int .i64 t227)) (fun _ hk => hk.1.2) (.bool t228)) (fun _ hk => hk.1.2) (.int .i64 t229)) (fun _ hk => hk.1.2) (.int .i64 t230)) (fun _ hk => hk.1.2) (.int .i64 t231)) (fun _ hk => hk.1.2) (.int .i64 t232)) (fun _ hk => hk.2) (.slice (some ⟨go5, 0, none⟩) y210.length co19)) (fun _ hk => hk.2) (.int .i64 t227)) (fun _ hk => hk.2) (.bool t228)) (fun _ hk => hk.2) (.int .i64 t229)) (fun _ hk => hk.2) (.int .i64 t230)) (fun _ hk => hk.2) (.int .i64 t231)) (fun _ hk => hk.2) (.int .i64 t232)) (fun _ hk => hk.2) (.slice Ao18 t213.length co18)) (fun _ hk => hk.2) (.slice Ao17 t216.length co17)) (fun _ hk => hk.2) (.int .i64 0)) (fun _ hk => trivial), by repeat (first | (with_reducible first | exact HB.out | apply below_alloc | apply pw_below_drewN | apply below_drew1 | refine below_set ?_ GE209.out | refine below_set ?_ GE219.out) | exact HB.out)⟩
  ·rw [if_neg c4] at H
   exact absurd H (by simp)
 ·rw [if_neg c1] at H
  exact absurd H (by simp)

end Go.Proofs.Ytlblngbhffpfoaa.PFnExactStateNew
